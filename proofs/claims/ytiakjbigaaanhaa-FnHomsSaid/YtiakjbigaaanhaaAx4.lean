/-
 Part of the proof; see the last text of the claim.
-/
import Derived.Test.YtiakjbigaaanhaaAx3
namespace Go.Proofs.Ytiakjbigaaanhaa.Ax
open Go
structure Br (b : Bool) (X Y : Prop) : Prop where
 t : b = true → X
 f : b = false → Y
structure Ask (p X : Prop) : Prop where
 p : p
 x : X
structure Elem (xs : List V) (j : Nat) (K : V → Prop) : Prop where
 h : K (xs.getD j .dead)
structure Cells (xs : List V) (c n : Nat) (K : List V → Prop) : Prop where
 h : ∃ us, c + n ≤ xs.length ∧ (xs.drop c).take n = us ∧ K us
structure Kid (T : V) (c : Nat) (K : V → Prop) : Prop where
 h : ∃ k, T.stepOk = true ∧ T.kids[c]? = some k ∧ K k
structure SetKids (x : V) (c : Nat) (us : List V) (K : V → Prop) : Prop where
 h : ∃ x', x.setKids c us = some x' ∧ K x'
structure MkQ (d n : Nat) (z : V) (K : List V → Prop) : Prop where
 h : K (List.replicate n z)
structure BslQ (d m : Nat) (us : List V) (K : List V → Prop) : Prop where
 h : Q2 m us = true ∧ K us
structure AppQ (d : Nat) (xs ys : List V) (K : List V → Prop) : Prop where
 h : Cs (Bi ys) = true ∧ xs.length + ys.length ≤ LIM ∧ K (xs ++ ys)
structure NoOwn (ys : List V) (X Y : Prop) : Prop where
 h : (Bd (Bi ys) = false ∧ X) ∨ (Bd (Bi ys) = true ∧ Y)
structure SlcQ (xs : List V) (l h : Int) (K : List V → Prop) : Prop where
 h : 0 ≤ l ∧ l ≤ h ∧ h ≤ (xs.length : Int) ∧ K ((xs.drop l.toNat).take (h.toNat - l.toNat))
structure Idx (j : Int) (lo n : Nat) (K : Int → Prop) : Prop where
 h : lo ≤ j → j < n → K j
def Ap : Nat → Nat → Nat
 | x, 0 => x * 0
 | x, 1 => x
 | x, m + 2 => x * (m + 2)
theorem Aa (x : Nat) : Ap x 1 = x := rfl
theorem Qp (x m : Nat) : Ap x m = x * m := by
 unfold Ap; split <;> simp
def Asa (a b : Int) : Int := IntKind.i64.wrap (a * 2 ^ (min b.toNat IntKind.i64.bits))
def Ap1 (a b : Int) : Int := a.fdiv (2 ^ (min b.toNat IntKind.i64.bits))
def Asg (a b : Int) : Int := IntKind.i64.wrap (BitVec.ofInt IntKind.i64.bits a &&& BitVec.ofInt IntKind.i64.bits b).toNat
def orI (a b : Int) : Int := IntKind.i64.wrap (BitVec.ofInt IntKind.i64.bits a ||| BitVec.ofInt IntKind.i64.bits b).toNat
def Ays (a b : Int) : Int := IntKind.i64.wrap (BitVec.ofInt IntKind.i64.bits a ^^^ BitVec.ofInt IntKind.i64.bits b).toNat
def Ava (a b : Int) : Int := IntKind.i64.wrap (BitVec.ofInt IntKind.i64.bits a &&& ~~~BitVec.ofInt IntKind.i64.bits b).toNat
theorem Br.not {b : Bool} {X Y : Prop} (h : Br b Y X) : Br (!b) X Y := by
 cases b
 ·exact ⟨fun _ => h.f rfl, fun e => Bool.noConfusion e⟩
 exact ⟨fun e => Bool.noConfusion e, fun _ => h.t rfl⟩
theorem Br.beq {a b : Int} {X Y : Prop} (h1 : a = b → X) (h2 : a ≠ b → Y) : Br (a == b) X Y := ⟨fun h => h1 (by simpa using h), fun h => h2 (by simpa using h)⟩
structure Len (xs : List V) (K : Nat → Prop) : Prop where
 h : K xs.length
theorem Len.map {α : Type} {f : α → V} {xs : List α} {K : Nat → Prop} (h : K xs.length) : Len (xs.map f) K := ⟨by rw [List.length_map]; exact h⟩
theorem Len.app {xs ys : List V} {K : Nat → Prop} (h : K (xs.length + ys.length)) : Len (xs ++ ys) K := ⟨by rw [List.length_append]; exact h⟩
theorem Br.yes {X Y : Prop} (h : X) : Br true X Y := ⟨fun _ => h, fun e => Bool.noConfusion e⟩
theorem Br.no {X Y : Prop} (h : Y) : Br false X Y := ⟨fun e => Bool.noConfusion e, fun _ => h⟩
mutual
def Q3 : A → (A → Prop) → Prop
 | .top, K => K .top
 | .val v, K => K (.val v)
 | .ref r p, K => K (.ref r p)
 | .addr r p c, K => K (.addr r p c)
 | .fad cs, K => K (.fad cs)
 | .agg as, K => Aex as fun bs => K (.agg bs)
 | .clo f as, K => Aex as fun bs => K (.clo f bs)
def Aex : List A → (List A → Prop) → Prop
 | [], K => K []
 | a :: r, K => Q3 a fun b => Aex r fun s => K (b :: s)
end
mutual
theorem Lc : (a : A) → (K : A → Prop) → Q3 a K = K a
 | .top, _ => rfl
 | .val _, _ => rfl
 | .ref _ _, _ => rfl
 | .addr _ _ _, _ => rfl
 | .fad _, _ => rfl
 | .agg as, K => by simp only [Q3]; rw [Aay as]
 | .clo f as, K => by simp only [Q3]; rw [Aay as]
theorem Aay : (as : List A) → (K : List A → Prop) → Aex as K = K as
 | [], _ => rfl
 | a :: r, K => by simp only [Aex]; rw [Lc a, Aay r]
end
def Bs : St → (St → Prop) → Prop
 | [], K => K []
 | (k, a) :: r, K => Q3 a fun b => Bs r fun s => K ((k, b) :: s)
theorem A4 : ∀ (σ : St) (K : St → Prop), Bs σ K = K σ := by
 intro σ
 induction σ with
 | nil => intro K; rfl
 | cons e r ih => intro K; obtain ⟨k, a⟩ := e; simp only [Bs]; rw [Lc, ih]
def Akd (o : Option St) (K : St → Prop) : Prop := match o with
 | some σ => Bs σ K
 | none => False
theorem Ach {o : Option St} {K : St → Prop} (h : Akd o K) : ∃ σ, o = some σ ∧ K σ := by
 unfold Akd at h
 split at h
 ·rw [A4] at h; exact ⟨_, rfl, h⟩
 exact h.elim
def J8 (s : Nat) (b : Bool) : St → St
 | [] => []
 | (k, a) :: r => match Nat.beq k s with
   | true => (k, .val (.bool b)) :: r
   | false => (k, a) :: J8 s b r
theorem N5 {s : Nat} {b : Bool} : ∀ {σ : St}, look σ s = .val (.bool b) → J8 s b σ = σ := by
 intro σ
 induction σ with
 | nil => intro _; rfl
 | cons e r ih =>
   obtain ⟨k, a⟩ := e
   intro h
   simp only [look] at h
   simp only [J8]
   by_cases hk : k = s
   ·rw [if_pos hk] at h
    subst hk
    rw [show Nat.beq k k = true by simp, h]
   ·rw [if_neg hk] at h
    rw [show Nat.beq k s = false by
     cases hb : Nat.beq k s with
     | false => rfl
     | true => exact absurd (Nat.eq_of_beq_eq_true hb) hk]
    simp only [ih h]
def Ayz (x : X) (b : Bool) (σ : St) : St := match x with
 | .t s => J8 s b σ
 | .c _ => σ
def Aou : List Nat → V → (V → Prop) → Prop
 | [], T, K => K T
 | c :: p, T, K => Kid T c fun k => Aou p k K
theorem Xe : ∀ {p : List Nat} {T : V} {K : V → Prop}, Aou p T K → ∃ u, sub p T = some u ∧ K u := by
 intro p
 induction p with
 | nil => intro T K h; exact ⟨T, rfl, h⟩
 | cons c p ih =>
   intro T K h
   obtain ⟨k, h1, h2, h3⟩ := h.h
   obtain ⟨u, h4, h5⟩ := ih h3
   exact ⟨u, by simp only [sub, h1, h2, if_true, h4], h5⟩
def Acm (T : A) (p : List Nat) (K : V → Prop) : Prop := match T with
 | .val V => Aou p V K
 | _ => False
def Tx : List Nat → V → V → (V → Prop) → Prop
 | [], _, u, K => K u
 | c :: p, T, u, K => Kid T c fun k => Tx p k u fun k' => SetKids T c [k'] K
theorem Ke : ∀ {p : List Nat} {T u : V} {K : V → Prop}, Tx p T u K → ∃ T', upd p T u = some T' ∧ K T' := by
 intro p
 induction p with
 | nil => intro T u K h; exact ⟨u, rfl, h⟩
 | cons c p ih =>
   intro T u K h
   obtain ⟨k, h1, h2, h3⟩ := h.h
   obtain ⟨k', h4, h5⟩ := ih h3
   obtain ⟨T', h6, h7⟩ := h5.h
   exact ⟨T', by simp only [upd, h2, h4, h6], h7⟩
theorem K5 {σ : St} {r : Nat} {p : List Nat} {K : V → Prop} (h : Acm (look σ r) p K) : ∃ T u, look σ r = .val T ∧ sub p T = some u ∧ Bw σ r p = some u ∧ K u := by
 unfold Acm at h
 split at h
 ·rename_i T hT
  obtain ⟨u, h1, h2⟩ := Xe h
  exact ⟨T, u, hT, h1, by simp [Bw, hT, h1], h2⟩
 exact h.elim
def Aaq (a b : A) (K : Int → Int → Prop) (E : Prop) : Prop := match a, b with
 | .val (.int .i64 x), .val (.int .i64 y) => K x y
 | _, _ => E
abbrev InI (n : Int) : Prop := -9223372036854775808 ≤ n ∧ n ≤ 9223372036854775807
theorem Atm {a b : A} {K : Int → Int → Prop} {E : Prop} (h : Aaq a b K E) : (∃ x y, a = .val (.int .i64 x) ∧ b = .val (.int .i64 y) ∧ K x y) ∨ E := by
 unfold Aaq at h
 split at h
 ·exact .inl ⟨_, _, rfl, rfl, h⟩
 exact .inr h
def Gn (o : Option (Nat × A)) (K : Nat → A → Prop) : Prop := match o with
 | some (d, a) => Q3 a fun b => K d b
 | none => False
theorem Hn {o : Option (Nat × A)} {K : Nat → A → Prop} (h : Gn o K) : ∃ d a, o = some (d, a) ∧ K d a := by
 unfold Gn at h
 split at h
 ·rw [Lc] at h; exact ⟨_, _, rfl, h⟩
 exact h.elim
def Ay6 (d : Nat) (xs : List V) (K : Nat → A → Prop) : Prop := Len xs fun n => K d (.val (.int .i64 n))
def Av8 (d m m' : Nat) (xs : List V) (j : Int) (own : Option (Nat × List Nat)) (K : Nat → A → Prop) : Prop := match Nat.beq m' m with
 | true => Len xs fun n => Ask (0 ≤ j ∧ j < n) (match own with
   | none => Elem xs j.toNat fun u => K d (.fad u.cells)
   | some (r, p) => K d (.addr r p (Ap j.toNat m)))
 | false => False
def Acb (o : AOp) (σ : St) (K : Nat → A → Prop) : Prop := match o with
 | .bin d op x y => match op with
   | .add => Aaq (Ai σ x) (Ai σ y) (fun a b => Ask (InI (a + b)) (K d (.val (.int .i64 (a + b))))) (Gn (qR o σ) K)
   | .sub => Aaq (Ai σ x) (Ai σ y) (fun a b => Ask (InI (a - b)) (K d (.val (.int .i64 (a - b))))) (Gn (qR o σ) K)
   | .mul => Aaq (Ai σ x) (Ai σ y) (fun a b => Ask (InI (a * b)) (K d (.val (.int .i64 (a * b))))) (Gn (qR o σ) K)
   | .quo => Aaq (Ai σ x) (Ai σ y) (fun a b => Ask (b ≠ 0 ∧ InI (a.tdiv b)) (K d (.val (.int .i64 (a.tdiv b))))) (Gn (qR o σ) K)
   | .rem => Aaq (Ai σ x) (Ai σ y) (fun a b => Ask (b ≠ 0) (K d (.val (.int .i64 (a.tmod b))))) (Gn (qR o σ) K)
   | .shl => Aaq (Ai σ x) (Ai σ y) (fun a b => Ask (0 ≤ b) (K d (.val (.int .i64 (Asa a b))))) (Gn (qR o σ) K)
   | .shr => Aaq (Ai σ x) (Ai σ y) (fun a b => Ask (0 ≤ b) (K d (.val (.int .i64 (Ap1 a b))))) (Gn (qR o σ) K)
   | .and => Aaq (Ai σ x) (Ai σ y) (fun a b => K d (.val (.int .i64 (Asg a b)))) (Gn (qR o σ) K)
   | .or => Aaq (Ai σ x) (Ai σ y) (fun a b => K d (.val (.int .i64 (orI a b)))) (Gn (qR o σ) K)
   | .xor => Aaq (Ai σ x) (Ai σ y) (fun a b => K d (.val (.int .i64 (Ays a b)))) (Gn (qR o σ) K)
   | .andNot => Aaq (Ai σ x) (Ai σ y) (fun a b => K d (.val (.int .i64 (Ava a b)))) (Gn (qR o σ) K)
   | _ => Gn (qR o σ) K
 | .pick d c x y => match Ai σ c with
   | .val (.bool b) => Br b (Gn ((nt (Ai σ x)).map (d, ·)) K) (Gn ((nt (Ai σ y)).map (d, ·)) K)
   | _ => False
 | .iad d m x i => match Ai σ x, Ai σ i with
   | .val (.sl _ m' xs), .val (.int _ j) => Av8 d m m' xs j none K
   | .ref r p, .val (.int _ j) => Acm (look σ r) p fun u => match u with
     | .sl o m' xs => match o with
       | true => Av8 d m m' xs j (some (r, p)) K
       | false => False
     | _ => False
   | _, _ => False
 | .aad d m n x i => match E5 σ (Ai σ x), Ai σ i with
   | some l, .val (.int _ j) => Ask (0 ≤ j ∧ j < n) (Idx j 0 n fun j => Q3 (Abk (Ap j.toNat m) l) fun b => K d b)
   | _, _ => False
 | .ld d n ag x => match E5 σ (Ai σ x) with
   | some (.own r p c) => Acm (look σ r) p fun u => Cells u.kids c n fun ks => Q3 (mkA ag (W1 r p c ks)) fun b => K d b
   | _ => Gn (qR o σ) K
 | .mk d m z x => match Ai σ x with
   | .val (.int _ n) => Ask (0 ≤ n ∧ n ≤ (LIM : Int)) (MkQ d n.toNat z.up fun l => K d (.val (.sl true m l)))
   | _ => False
 | .mkc d m _ x => match Ai σ x with
   | .val (.int _ n) => Ask (0 ≤ n ∧ n ≤ (LIM : Int)) (K d (.val (.sl true m [])))
   | _ => False
 | .bsl d m ps => match Ih (ps.map (Ai σ)) with
   | some Us => BslQ d m (upL Us) fun l => K d (.val (.sl true m l))
   | none => False
 | .slc d m x lo hi => match Ai σ x with
   | .val (.sl o m' xs) => (match o with
     | true => False
     | false => (match Nat.beq m' m with
       | true => (match Yw 0 (lo.map (Ai σ)) with
         | some l => (match hi with
           | none => Len xs fun n => SlcQ xs l n fun ys => K d (.val (.sl false m ys))
           | some y => (match Ao5 (Ai σ y) with
             | some h => SlcQ xs l h fun ys => K d (.val (.sl false m ys))
             | none => False))
         | none => False)
       | false => False))
   | _ => False
 | .len d x => match Ai σ x with
   | .val (.sl _ _ xs) => Ay6 d xs K
   | .ref r p => Acm (look σ r) p fun u => match u with
     | .sl _ _ xs => Ay6 d xs K
     | _ => False
   | _ => Gn (qR o σ) K
 | .sidx d x i => (match Ai σ x, Ai σ i with
   | .val (.str s), .val (.int _ j) => Ask (0 ≤ j ∧ j < (s.size : Int)) (K d (.val (.int .u8 (Aco s j))))
   | _, _ => False)
 | o => Gn (qR o σ) K
theorem Aju {d m m' : Nat} {xs : List V} {j : Int} {own : Option (Nat × List Nat)} {K : Nat → A → Prop} (h : Av8 d m m' xs j own K) : m' = m ∧ 0 ≤ j ∧ j < xs.length ∧ (match own with
  | none => K d (.fad (xs.getD j.toNat .dead).cells)
  | some (r, p) => K d (.addr r p (j.toNat * m))) := by
 unfold Av8 at h
 split at h
 ·rename_i hm
  have h1 := h.h
  refine ⟨Nat.eq_of_beq_eq_true hm, h1.p.1, h1.p.2, ?_⟩
  cases own with
  | none => exact h1.x.h
  | some e => have := h1.x; simpa [Qp] using this
 exact h.elim
theorem Pw {o : AOp} {σ : St} {K : Nat → A → Prop} (h : Acb o σ K) : ∃ d a, qR o σ = some (d, a) ∧ K d a := by
 unfold Acb at h
 split at h
 ·rename_i d op x y
  split at h
  case h_12 => exact Hn h
  all_goals
   rcases Atm h with ⟨a, b, ha, hb, hk⟩ | h
   case inr => exact Hn h
  ·exact ⟨_, _, by simp [qR, ha, hb, Eo, V.isBool, Pc, Qd hk.p.1 hk.p.2], hk.x⟩
  ·exact ⟨_, _, by simp [qR, ha, hb, Eo, V.isBool, Pc, Qd hk.p.1 hk.p.2], hk.x⟩
  ·exact ⟨_, _, by simp [qR, ha, hb, Eo, V.isBool, Pc, Qd hk.p.1 hk.p.2], hk.x⟩
  ·exact ⟨_, _, by simp [qR, ha, hb, Eo, V.isBool, Pc, hk.p.1, Qd hk.p.2.1 hk.p.2.2], hk.x⟩
  ·exact ⟨_, _, by simp [qR, ha, hb, Eo, V.isBool, Pc, hk.p], hk.x⟩
  ·exact ⟨d, .val (.int .i64 (Asa a b)), by simp [qR, ha, hb, Eo, V.isBool, Pc, Int.not_lt.2 hk.p, Asa], hk.x⟩
  ·exact ⟨d, .val (.int .i64 (Ap1 a b)), by simp [qR, ha, hb, Eo, V.isBool, Pc, Int.not_lt.2 hk.p, Ap1], hk.x⟩
  ·exact ⟨d, .val (.int .i64 (Asg a b)), by simp [qR, ha, hb, Eo, V.isBool, Pc, Asg], hk⟩
  ·exact ⟨d, .val (.int .i64 (orI a b)), by simp [qR, ha, hb, Eo, V.isBool, Pc, orI], hk⟩
  ·exact ⟨d, .val (.int .i64 (Ays a b)), by simp [qR, ha, hb, Eo, V.isBool, Pc, Ays], hk⟩
  exact ⟨d, .val (.int .i64 (Ava a b)), by simp [qR, ha, hb, Eo, V.isBool, Pc, Ava], hk⟩
 ·rename_i d c x y
  split at h
  ·rename_i b hb
   cases b
   ·obtain ⟨d', a, h1, h2⟩ := Hn (h.f rfl)
    exact ⟨d', a, by simp only [qR, hb]; simpa using h1, h2⟩
   obtain ⟨d', a, h1, h2⟩ := Hn (h.t rfl)
   exact ⟨d', a, by simp only [qR, hb]; simpa using h1, h2⟩
  exact h.elim
 ·rename_i d m x i
  split at h
  ·rename_i hx hi
   obtain ⟨h1, h2, h3, h4⟩ := Aju h
   subst h1
   exact ⟨_, _, by simp only [qR, hx, hi, h2, h3, and_self, if_true], h4⟩
  ·rename_i hx hi
   obtain ⟨T, u, hT, hs, hn, hk⟩ := K5 h
   split at hk
   case h_2 => exact hk.elim
   split at hk
   case h_2 => exact hk.elim
   obtain ⟨h1, h2, h3, h4⟩ := Aju hk
   subst h1
   exact ⟨_, _, by simp only [qR, hx, hi, hn, h2, h3, and_self, if_true], h4⟩
  exact h.elim
 ·rename_i d m n x i
  split at h
  ·rename_i hl hi
   have h2 := h.x.h h.p.1 h.p.2
   rw [Lc, Qp] at h2
   exact ⟨_, _, by simp only [qR, hl, hi, h.p.1, h.p.2, and_self, if_true], h2⟩
  exact h.elim
 ·rename_i d n ag x
  split at h
  ·rename_i r p c hl
   obtain ⟨T, u, hT, hs, hn, hk⟩ := K5 h
   obtain ⟨ks, h1, h2, h3⟩ := hk.h
   rw [Lc] at h3
   subst h2
   exact ⟨_, _, by simp [qR, hl, W8, hn, h1], h3⟩
  exact Hn h
 ·rename_i d m z x
  split at h
  ·rename_i hx
   exact ⟨_, _, by simp [qR, hx, h.p.1, h.p.2], h.x.h⟩
  exact h.elim
 ·rename_i d m z x
  split at h
  ·rename_i hx
   exact ⟨_, _, by simp [qR, hx, h.p.1, h.p.2], h.x⟩
  exact h.elim
 ·rename_i d m ps
  split at h
  ·rename_i Us hU
   exact ⟨_, _, by simp [qR, hU, h.h.1], h.h.2⟩
  exact h.elim
 ·rename_i d m x lo hi
  split at h
  case h_2 => exact h.elim
  rename_i o m' xs hx
  split at h
  ·exact h.elim
  split at h
  case h_2 => exact h.elim
  rename_i hm
  have hm' := Nat.eq_of_beq_eq_true hm
  split at h
  case h_2 => exact h.elim
  rename_i l hl
  split at h
  ·obtain ⟨h0, h1, h2, h3⟩ := h.h.h
   have e2 : Yw (xs.length : Int) ((none : Option X).map (Ai σ)) = some (xs.length : Int) := rfl
   exact ⟨_, _, by simp only [qR, Ajd, hx, hl, e2]; rw [if_pos ⟨hm', h0, h1, h2⟩]; rfl, h3⟩
  rename_i y
  split at h
  case h_2 => exact h.elim
  rename_i hh hy
  obtain ⟨h0, h1, h2, h3⟩ := h.h
  have e2 : Yw (xs.length : Int) ((some y).map (Ai σ)) = some hh := hy
  exact ⟨_, _, by simp only [qR, Ajd, hx, hl, e2]; rw [if_pos ⟨hm', h0, h1, h2⟩]; rfl, h3⟩
 ·rename_i d x
  split at h
  ·rename_i hx
   exact ⟨_, _, by simp [qR, hx, Ab1], h.h⟩
  ·rename_i hx
   obtain ⟨T, u, hT, hs, hn, hk⟩ := K5 h
   split at hk
   case h_2 => exact hk.elim
   exact ⟨_, _, by simp [qR, hx, Ab1, hn], hk.h⟩
  exact Hn h
 ·rename_i d x i
  split at h
  case h_2 => exact h.elim
  rename_i hx hi
  exact ⟨_, _, by simp only [qR, hx, hi]; rw [if_pos h.p], h.x⟩
 exact Hn h
def yK (σ : St) (m : Nat) (y : A) (K : List V → St → Prop) : Prop := match y with
 | .val (.sl _ m' ys) => match Nat.beq m' m with
   | true => K ys σ
   | false => False
 | .val (.nilsl _) => K [] σ
 | .ref r p => Acm (look σ r) p fun u => match u with
   | .sl o m' ys => match o with
     | true => match Nat.beq m' m with
       | true => NoOwn ys (K ys σ) (match F8 σ (.ref r p) with
         | some (_, σ1) => K ys σ1
         | none => False)
       | false => False
     | false => False
   | _ => False
 | _ => False
theorem Aq6 {σ : St} {m : Nat} {y : A} {K : List V → St → Prop} (h : yK σ m y K) : ∃ ys σ1, yS σ m y = some (ys, σ1) ∧ K ys σ1 := by
 unfold yK at h
 split at h
 ·split at h
  ·rename_i hm
   exact ⟨_, _, by simp [yS, Nat.eq_of_beq_eq_true hm], h⟩
  exact h.elim
 ·exact ⟨_, _, by simp [yS], h⟩
 ·obtain ⟨T, u, hT, hs, hn, hk⟩ := K5 h
  split at hk
  case h_2 => exact hk.elim
  split at hk
  case h_2 => exact hk.elim
  split at hk
  case h_2 => exact hk.elim
  rename_i hm
  have hm' := Nat.eq_of_beq_eq_true hm
  rcases hk.h with ⟨h1, h2⟩ | ⟨h1, h2⟩
  ·exact ⟨_, _, by simp [yS, hn, hm', h1], h2⟩
  split at h2
  ·rename_i U σ1 ht
   exact ⟨_, _, by simp [yS, hn, hm', h1, ht], h2⟩
  exact h2.elim
 exact h.elim
def Ax9 : AOp → Bool
 | .mov .. => true
 | .pick .. => true
 | .bin .. => true
 | .binb .. => true
 | .un .. => true
 | .cnv .. => true
 | .len .. => true
 | .ext .. => true
 | .iad .. => true
 | .aad .. => true
 | .fadr .. => true
 | .ld .. => true
 | .nck .. => true
 | .mk .. => true
 | .mkc .. => true
 | .alc .. => true
 | .mkf .. => true
 | .slc .. => true
 | .sidx .. => true
 | _ => false
def Axo {α : Type} (f : α → V) (l : List α) (i : Nat) : List V := (l.map f).set i .dead
def holeW {α : Type} (f : α → V) (l : List α) (i : Nat) (v : V) : List V := (l.map f).set i v
def Abt (σ : St) (a : A) (K : V → St → Prop) : Prop := match a with
 | .ref r (c :: p) => (match look σ r with
   | .val T => Aou (c :: p) T fun u => Tx (c :: p) T .dead fun T' => K u (turnP r T' (c :: p) σ)
   | _ => False)
 | a => match Hl σ a with
   | some (v, σ') => K v σ'
   | none => False
theorem Py {σ : St} {a : A} {K : V → St → Prop} (h : Abt σ a K) : ∃ v σ', Hl σ a = some (v, σ') ∧ K v σ' := by
 unfold Abt at h
 split at h
 ·rename_i r c p
  split at h
  case h_2 => exact h.elim
  rename_i T hT
  obtain ⟨u, h1, h2⟩ := Xe h
  obtain ⟨T', h3, h4⟩ := Ke h2
  exact ⟨u, _, by simp only [Hl, F8, hT, h1, h3], h4⟩
 split at h
 ·exact ⟨_, _, by assumption, h⟩
 exact h.elim
def Avi (o : AOp) (σ : St) (K : St → Prop) : Prop := match o with
 | .bsl d m ps => match Nd σ (ps.map (Ai σ)) with
   | some (Us, σ1) => BslQ d m Us fun l => Bs (A6 d (.val (.sl true m l)) σ1) K
   | none => False
 | .app d m x y => yK σ m (Ai σ y) fun ys σ1 => Abt σ1 (Ai σ1 x) fun v σ2 => match v with
   | .sl o m' xs => (match o with
     | true => (match Nat.beq m' m with
       | true => AppQ d xs ys fun l => Bs (A6 d (.val (.sl true m l)) σ2) K
       | false => False)
     | false => False)
   | _ => False
 | .slt d m x hi => match Ao5 (Ai σ hi) with
   | some h => Abt σ (Ai σ x) fun v σ2 => match v with
     | .sl o m' xs => (match o with
       | true => (match Nat.beq m' m with
         | true => SlcQ xs 0 h fun ys => Bs (A6 d (.val (.sl true m ys)) σ2) K
         | false => False)
       | false => False)
     | _ => False
   | none => False
 | .idx d m n ag x i => match Ai σ i with
   | .val (.int k j) => Ask (0 ≤ j ∧ j < n) (Idx j 0 n fun j => Akd (if Amu σ (Ai σ x) then Av5 d m n ag (Ai σ x) (.val (.int k j)) σ else none) K)
   | _ => False
 | .st n x v => match Hl σ (Ai σ v) with
   | some (U, σ1) => match E5 σ1 (Ai σ1 x) with
     | some (.own r p c) => match look σ1 r with
       | .val T => Aou p T fun nd => match nd.node && decide (U.cells.length = n) && Cs U.cells with
         | true => SetKids nd c U.cells fun nd' => Tx p T nd' fun T' => Bs (Nn r T' (p.length + 1) σ1) K
         | false => False
       | _ => False
     | _ => False
   | none => False
 | o => Akd (B1 o σ) K
theorem Any {o : AOp} {σ : St} {K : St → Prop} (h : Avi o σ K) : ∃ σ', B1 o σ = some σ' ∧ K σ' := by
 unfold Avi at h
 split at h
 ·rename_i d m ps
  split at h
  ·rename_i Us σ1 hU
   obtain ⟨h1, h2⟩ := h.h
   rw [A4] at h2
   exact ⟨_, by simp [B1, Ate, hU, h1], h2⟩
  exact h.elim
 ·rename_i d m x y
  obtain ⟨ys, σ1, hy, hk⟩ := Aq6 h
  obtain ⟨v, σ2, hX, hk⟩ := Py hk
  split at hk
  case h_2 => exact hk.elim
  rename_i o m' xs
  split at hk
  case h_2 => exact hk.elim
  split at hk
  case h_2 => exact hk.elim
  rename_i hm
  have hm' := Nat.eq_of_beq_eq_true hm
  obtain ⟨h1, h2, h3⟩ := hk.h
  rw [A4] at h3
  exact ⟨_, by simp [B1, Asp, hy, hX, hm', h1, h2], h3⟩
 ·rename_i d m x hi
  split at h
  case h_2 => exact h.elim
  rename_i hh hn
  obtain ⟨v, σ2, hX, hk⟩ := Py h
  split at hk
  case h_2 => exact hk.elim
  rename_i o m' xs
  split at hk
  case h_2 => exact hk.elim
  split at hk
  case h_2 => exact hk.elim
  rename_i hm
  have hm' := Nat.eq_of_beq_eq_true hm
  obtain ⟨_, h1, h2, h3⟩ := hk.h
  rw [A4] at h3
  exact ⟨_, by simp only [B1, Au7, hn, hX, hm', h1, h2, and_self, if_true], h3⟩
 ·rename_i d m n ag x i
  split at h
  case h_2 => exact h.elim
  rename_i hi
  obtain ⟨σ', h1, h2⟩ := Ach (h.x.h h.p.1 h.p.2)
  exact ⟨σ', by simp only [B1, hi]; exact h1, h2⟩
 ·rename_i n x v
  split at h
  case h_2 => exact h.elim
  rename_i U σ1 ht
  split at h
  case h_2 => exact h.elim
  rename_i r p c hl
  split at h
  case h_2 => exact h.elim
  rename_i T hT
  obtain ⟨u, hs, hk⟩ := Xe h
  split at hk
  case h_2 => exact hk.elim
  rename_i hc
  obtain ⟨nd', h1, h2⟩ := hk.h
  obtain ⟨T', h3, h4⟩ := Ke h2
  rw [A4] at h4
  exact ⟨_, by simp only [B1, Amh, ht, hl, hT, hs, hc, h1, h3, if_true], h4⟩
 exact Ach h
def Ajp (o : AOp) (σ : St) (K : St → Prop) : Prop := match Ax9 o with
 | true => Acb o σ fun d a => Bs (A6 d a σ) K
 | false => Avi o σ K
theorem Po {o : AOp} {σ : St} {K : St → Prop} (h : Ajp o σ K) : ∃ σ', B1 o σ = some σ' ∧ K σ' := by
 unfold Ajp at h
 split at h
 ·obtain ⟨d, a, h1, h2⟩ := Pw h
  rw [A4] at h2
  exact ⟨_, (Aks h1).1, h2⟩
 exact Any h
structure CallQ (P : Program) (f d : Nat) (vs : List V) (ls : List (Nat × Nat × List Nat)) (rs : List Nat) (K : St → Prop) (σ : St) : Prop where
 h : J9 ls rs = true ∧ Tri P f vs (F0 d ls rs K σ)
structure CallP (P : Program) (f d : Nat) (vs : List V) (rs : List Nat) (K : V → Prop) : Prop where
 h : ∃ v, Tri P f vs (fun res _ => res = v ∧ G9 rs v = true) ∧ K v
structure CloQ (P : Program) (f d : Nat) (cs vs : List V) (rs : List Nat) (K : St → Prop) (σ : St) : Prop where
 h : Tri P f (vs ++ fzL cs) (F0 d [] rs K σ)
def Aq0 (σ : St) (a : A) (io : Bool) (k : Nat) (K : V → List (Nat × Nat × List Nat) → List Nat → Prop) : Prop := match a with
 | .val v => K v.fz [] []
 | .ref r p => Acm (look σ r) p fun u => match io && u.node with
   | true => K u [(k, r, p)] []
   | false => K u.fz [] [r]
 | a => match Lo σ a with
   | some v => K v [] a.roots
   | none => False
def Yz (σ : St) : List (A × Bool) → Nat → (List V → List (Nat × Nat × List Nat) → List Nat → Prop) → Prop
 | [], _, K => K [] [] []
 | (a, io) :: rest, k, K => Aq0 σ a io k fun v ls' rs' => Yz σ rest (k + 1) fun vs ls rs => K (v :: vs) (ls' ++ ls) (rs' ++ rs)
theorem As6 {σ : St} {a : A} {io : Bool} {k : Nat} {K : V → List (Nat × Nat × List Nat) → List Nat → Prop} (h : Aq0 σ a io k K) :
  (∃ r p u, io = true ∧ Pr σ a = some (r, p, u) ∧ K u [(k, r, p)] []) ∨ ((io = true → Pr σ a = none) ∧ ∃ v, Lo σ a = some v ∧ K v [] a.roots) := by
 cases a with
 | val v => exact .inr ⟨fun _ => rfl, _, rfl, h⟩
 | ref r p =>
   obtain ⟨T, u, hT, hs, hn, hk⟩ := K5 h
   split at hk
   ·rename_i hb
    simp only [Bool.and_eq_true] at hb
    exact .inl ⟨r, p, u, hb.1, by simp [Pr, hn, hb.2], hk⟩
   ·rename_i hb
    refine .inr ⟨fun hi => ?_, u.fz, by simp [Lo, hn], hk⟩
    simp only [Pr, hn]
    cases hu : u.node with
    | false => rfl
    | true => rw [hi, hu] at hb; cases hb
 | top => simp [Aq0, Lo] at h
 | addr r p c => simp [Aq0, Lo] at h
 | fad cs => simp [Aq0, Lo] at h
 | agg as =>
   simp only [Aq0] at h
   split at h
   ·exact .inr ⟨fun _ => rfl, _, by assumption, h⟩
   ·exact h.elim
 | clo f as =>
   simp only [Aq0] at h
   split at h
   ·exact .inr ⟨fun _ => rfl, _, by assumption, h⟩
   ·exact h.elim
theorem Kx {σ : St} : ∀ {as : List (A × Bool)} {k : Nat} {K : List V → List (Nat × Nat × List Nat) → List Nat → Prop}, Yz σ as k K → ∃ vs ls rs, Dy σ as k = some (vs, ls, rs) ∧ K vs ls rs := by
 intro as
 induction as with
 | nil => intro k K h; exact ⟨[], [], [], rfl, h⟩
 | cons e rest ih =>
   intro k K h
   obtain ⟨a, io⟩ := e
   simp only [Yz] at h
   rcases As6 h with ⟨r, p, u, h1, h2, h3⟩ | ⟨h1, v, h2, h3⟩
   ·obtain ⟨vs, ls, rs, h4, h5⟩ := ih h3
    exact ⟨_, _, _, by simp [Dy, h4, h1, h2], h5⟩
   ·obtain ⟨vs, ls, rs, h4, h5⟩ := ih h3
    refine ⟨_, _, _, ?_, h5⟩
    simp only [Dy, h4]
    have : (if io = true then Pr σ a else none) = none := by split <;> simp_all
    simp [this, h2]
structure LendQ (P : Program) (f d : Nat) (bs : List A) (vs : List V) (ls : List (Nat × Nat × List Nat)) (rs : List Nat) (K : St → Prop) (σ : St) : Prop where
 h : J9 ls rs = true ∧ Tri P f (.agg (vs.take bs.length) :: vs.drop bs.length) (Rz (F0 d ls rs K σ))
def Ar3 (P : Program) (f d : Nat) (as : List (A × Bool)) (K : St → Prop) (σ : St) : Prop := match S0 as with
 | some (bs, rest) => Yz σ (bs.map (·, true) ++ rest) 0 fun vs ls rs => LendQ P f d bs vs ls rs K σ
 | none => Yz σ as 0 fun vs ls rs => CallQ P f d vs ls rs K σ
def opK (P : Program) (o : AOp) (σ : St) (K : St → Prop) : Prop := match o with
 | .call d f as => Ar3 P f d (C7 σ as) K σ
 | .cally d x as ms => match Ai σ x with
   | .val (.clo f cs) => Yz σ (C7 σ (as.map (·, false))) 0 fun vs ls rs => match ls with
     | [] => CloQ P f d cs vs rs K σ
     | _ => False
   | .val (.fclo f cs) => Yz σ (C7 σ (as.map (·, false))) 0 fun vs ls rs => match ls with
     | [] => CloQ P f d cs vs rs K σ
     | _ => False
   | .clo f cs => Ar3 P f d (C7 σ (as.map (·, false)) ++ Agq ms cs) K σ
   | _ => False
 | .slc d m (.t s) lo hi => (match look σ s with
   | .val T => (match T.hasOwn with
     | true => Bs (Aqf s σ) fun σ' => Ajp (.slc d m (.t s) lo hi) σ' K
     | false => Ajp (.slc d m (.t s) lo hi) σ K)
   | _ => Ajp (.slc d m (.t s) lo hi) σ K)
 | o => Ajp o σ K
theorem Acd {P : Program} {f d : Nat} {as : List (A × Bool)} {K : St → Prop} {σ : St} (h : Ar3 P f d as K σ) : H3 P f d as K σ := by
 unfold Ar3 at h
 unfold H3
 split at h
 ·rename_i e
  simp only [e]
  obtain ⟨vs, ls, rs, h1, h2⟩ := Kx h
  rw [h1]; exact h2.h
 rename_i e
 simp only [e]
 obtain ⟨vs, ls, rs, h1, h2⟩ := Kx h
 rw [h1]; exact h2.h
theorem Af2 {σ : St} : ∀ (cs : List V) (k : Nat), Dy σ (cs.map fun c => (A.val c, false)) k = some (fzL cs, [], []) := by
 intro cs
 induction cs with
 | nil => intro k; rfl
 | cons c r ih => intro k; simp [Dy, ih, Lo, fzL, A.roots]
theorem Zu {σ : St} {bs : List (A × Bool)} {us : List V} (hb : ∀ k, Dy σ bs k = some (us, [], [])) : ∀ {as : List (A × Bool)} {k : Nat} {vs ls rs}, Dy σ as k = some (vs, ls, rs) →
  Dy σ (as ++ bs) k = some (vs ++ us, ls, rs) := by
 intro as
 induction as with
 | nil => intro k vs ls rs h; simp [Dy] at h; obtain ⟨rfl, rfl, rfl⟩ := h; exact hb k
 | cons e rest ih =>
   intro k vs ls rs h
   obtain ⟨a, io⟩ := e
   simp only [Dy] at h
   split at h
   ·cases h
   ·rename_i vs' ls' rs' h1
    simp only [List.cons_append, Dy, ih h1]
    split at h
    ·rename_i r p u h2
     cases h
     rfl
    ·rename_i h2
     split at h
     ·rename_i v h3
      cases h
      rfl
     ·cases h
theorem Aen {σ : St} {xs : List X} {cs : List V} : S0 (C7 σ (xs.map (·, false)) ++ cs.map fun c => (A.val c, false)) = none := by
 cases xs with
 | nil => cases cs <;> rfl
 | cons x r =>
   simp only [C7, List.map_cons, List.cons_append]
   cases Ai σ x <;> rfl
theorem Abo {P : Program} {o : AOp} {σ : St} {K : St → Prop} (h : opK P o σ K) : Uh P o K σ := by
 unfold opK at h
 unfold Uh
 split at h
 ·exact Acd h
 ·split at h
  ·rename_i e
   obtain ⟨vs, ls, rs, h1, h2⟩ := Kx h
   split at h2
   case h_2 => exact h2.elim
   simp only [e, Zs]
   unfold H3
   rw [Aen]
   simp only
   rw [Zu (fun k => Af2 _ k) h1]
   exact ⟨rfl, h2.h⟩
  ·rename_i e
   obtain ⟨vs, ls, rs, h1, h2⟩ := Kx h
   split at h2
   case h_2 => exact h2.elim
   simp only [e, Zs]
   unfold H3
   rw [Aen]
   simp only
   rw [Zu (fun k => Af2 _ k) h1, Z0]
   exact ⟨rfl, h2.h⟩
  ·rename_i e
   simp only [e, Zs]; exact Acd h
  exact h.elim
 ·rename_i d m s lo hi
  simp only [Aad]
  split at h
  ·rename_i T hT
   simp only [hT]
   split at h
   ·rename_i ho
    rw [A4] at h
    obtain ⟨σ', e, hk⟩ := Po h
    simp only [ho]
    rw [e]; exact hk
   rename_i ho
   obtain ⟨σ', e, hk⟩ := Po h
   simp only [ho]
   rw [e]; exact hk
  rename_i hne
  obtain ⟨σ', e, hk⟩ := Po h
  split
  ·rename_i σ2 he
   split at he
   ·rename_i T hT; exact absurd hT (hne T)
   rw [e] at he; cases he; exact hk
  rename_i he
  split at he
  ·rename_i T hT; exact absurd hT (hne T)
  rw [e] at he; cases he
 rename_i h1 h2 h3
 obtain ⟨σ', e, hk⟩ := Po h
 have hp : Aad o σ = σ := by
  unfold Aad
  split
  ·exact absurd rfl (h3 _ _ _ _ _)
  ·rfl
 split
 ·exact absurd rfl (h1 _ _ _)
 ·exact absurd rfl (h2 _ _ _ _)
 rw [hp, e]; exact hk
def Apo (P : Program) (o : AOp) (σ : St) (K : St → Prop) : Prop := match o with
 | .call d f as => (match Ajt as with
   | [] => opK P (.call d f as) σ K
   | _ :: _ => Bs (Xm as σ) fun τ => opK P (.call d f as) τ K)
 | o => opK P o σ K
theorem Agu {P : Program} {o : AOp} {σ : St} {K : St → Prop} (h : Apo P o σ K) : M0 P o K σ := by
 unfold Apo at h
 unfold M0
 split at h
 ·simp only [V9]
  split at h
  ·rename_i e
   simp only [e]
   exact Abo h
  rename_i e
  rw [A4] at h
  simp only [e]
  exact Abo h
 rename_i h1
 have hp : V9 o σ = σ := by
  unfold V9
  split
  ·exact absurd rfl (h1 _ _ _)
  ·rfl
 rw [hp]
 exact Abo h
def N8 (P : Program) : List G → (St → Prop) → St → Prop
 | [], K, σ => K σ
 | ⟨none, o⟩ :: r, K, σ => Apo P o σ (N8 P r K)
 | ⟨some (s, true), o⟩ :: r, K, σ => match look σ s with
   | .val (.bool b) => Br b (Bs (J8 s true σ) fun τ => Apo P o τ (N8 P r K)) (Bs (V8 o (J8 s false σ)) (N8 P r K))
   | .val (.tup []) => Bs (V8 o σ) (N8 P r K)
   | _ => False
 | ⟨some (s, false), o⟩ :: r, K, σ => match look σ s with
   | .val (.bool b) => Br b (Bs (V8 o (J8 s true σ)) (N8 P r K)) (Bs (J8 s false σ) fun τ => Apo P o τ (N8 P r K))
   | .val (.tup []) => Bs (V8 o σ) (N8 P r K)
   | _ => False
theorem Pp {P : Program} : ∀ {gs : List G} {K : St → Prop} {σ : St}, N8 P gs K σ → D9 P gs K σ := by
 intro gs
 induction gs with
 | nil => intro K σ h; exact h
 | cons x r ih =>
   intro K σ h
   obtain ⟨g, o⟩ := x
   have run : ∀ {τ}, Apo P o τ (N8 P r K) → M0 P o (D9 P r K) τ := fun h => Iz (fun _ => ih) (Agu h)
   match g, h with
   | none, h => exact run h
   | some (s, true), h =>
     simp only [N8] at h
     simp only [D9]
     split at h
     ·rename_i b hb
      simp only [hb]
      refine ⟨fun e => ?_, fun e => ?_⟩
      ·subst e
       have := h.t rfl
       rw [A4, N5 hb] at this
       exact run this
      ·have e' : b = false := by simpa using e
       subst e'
       have := h.f rfl
       rw [A4, N5 hb] at this
       exact ih this
     ·rename_i hb
      simp only [hb]
      rw [A4] at h; exact ih h
     ·exact h.elim
   | some (s, false), h =>
     simp only [N8] at h
     simp only [D9]
     split at h
     ·rename_i b hb
      simp only [hb]
      refine ⟨fun e => ?_, fun e => ?_⟩
      ·subst e
       have := h.f rfl
       rw [A4, N5 hb] at this
       exact run this
      ·have e' : b = true := by simpa using e
       subst e'
       have := h.t rfl
       rw [A4, N5 hb] at this
       exact ih this
     ·rename_i hb
      simp only [hb]
      rw [A4] at h; exact ih h
     ·exact h.elim
def yNK (σ : St) (m s : Nat) (y : A) (K : List V → Prop) : Prop := match y with
 | .val (.sl _ m' ys) => (match Nat.beq m' m with
   | true => K ys
   | false => False)
 | .val (.nilsl _) => K []
 | .ref r p => (match Nat.beq r s with
   | true => False
   | false => Acm (look σ r) p fun u => match u with
     | .sl o m' ys => (match o with
       | true => (match Nat.beq m' m with
         | true => NoOwn ys (K ys) False
         | false => False)
       | false => False)
     | _ => False)
 | _ => False
theorem At7 {σ : St} {m s : Nat} {y : A} {K : List V → Prop} (h : yNK σ m s y K) : ∃ ys, yN σ m s y = some ys ∧ K ys := by
 unfold yNK at h
 split at h
 ·split at h
  ·rename_i hm
   exact ⟨_, by simp [yN, Nat.eq_of_beq_eq_true hm], h⟩
  exact h.elim
 ·exact ⟨_, by simp [yN], h⟩
 ·split at h
  ·exact h.elim
  rename_i hrs
  obtain ⟨T, u, hT, hs, hn, hk⟩ := K5 h
  split at hk
  case h_2 => exact hk.elim
  split at hk
  case h_2 => exact hk.elim
  split at hk
  case h_2 => exact hk.elim
  rename_i hm
  have hm' := Nat.eq_of_beq_eq_true hm
  have hne : ∀ {r : Nat}, Nat.beq r s = false → r ≠ s := by
   intro r h1 h2; subst h2; simp at h1
  rcases hk.h with ⟨h1, h2⟩ | ⟨_, h2⟩
  ·exact ⟨_, by simp [yN, hn, hm', h1, hne hrs], h2⟩
  exact h2.elim
 exact h.elim
def Aet : List Nat → (List Nat → Prop) → Prop
 | [], K => K []
 | n :: r, K => Aet r fun s => K (n :: s)
theorem Aka : ∀ (l : List Nat) (K : List Nat → Prop), Aet l K = K l := by
 intro l
 induction l with
 | nil => intro K; rfl
 | cons n r ih => intro K; simp only [Aet]; rw [ih]
def Aqk (P : Program) (o : AOp) (σ : St) (K : Nat → A → List Nat → Prop) : Prop := match o with
 | .call d f as => match as.all (fun e => !e.2) with
   | true => Yz σ (C7 σ as) 0 fun vs ls rs => match ls with
     | [] => CallP P f d vs rs fun v => K d (.val v) []
     | _ => False
   | false => False
 | .app d m (.t s) y => (match look σ s with
   | .val (.sl o m' xs) => (match o with
     | true => (match Nat.beq m' m with
       | true => yNK σ m s (Ai σ y) fun ys => AppQ d xs ys fun l => K d (.val (.sl true m l)) [s]
       | false => False)
     | false => False)
   | _ => False)
 | .bsl d m ps => (match Nl σ ps with
   | some (Us, ks) => BslQ d m Us fun l => Aet ks fun ks => K d (.val (.sl true m l)) ks
   | none => False)
 | .asg d (.t s) => (match look σ s with
   | .val v => (match v.hasOwn with
     | true => Q3 (.val v) fun a => K d a [s]
     | false => Q3 (.val v.up) fun a => K d a [])
   | _ => False)
 | o => Acb o σ fun d a => K d a []
theorem Akp {P : Program} {o : AOp} {σ : St} {K : Nat → A → List Nat → Prop} (h : Aqk P o σ K) : Og P o σ K := by
 unfold Aqk at h
 unfold Og
 split at h
 ·split at h
  case h_2 => exact h.elim
  rename_i hio
  refine ⟨hio, ?_⟩
  obtain ⟨vs, ls, rs, h1, h2⟩ := Kx h
  split at h2
  case h_2 => exact h2.elim
  rw [h1]
  exact h2.h
 ·split at h
  case h_2 => exact h.elim
  rename_i hL
  split at h
  case h_2 => exact h.elim
  split at h
  case h_2 => exact h.elim
  rename_i hm
  obtain ⟨ys, h1, h2⟩ := At7 h
  simp only [hL, h1]
  obtain ⟨k1, k2, k3⟩ := h2.h
  exact ⟨⟨trivial, Nat.eq_of_beq_eq_true hm, k1, k2⟩, k3⟩
 ·split at h
  case h_2 => exact h.elim
  rename_i ht
  obtain ⟨k1, k2⟩ := h.h
  rw [Aka] at k2
  simp only [ht]
  exact ⟨k1, k2⟩
 ·split at h
  case h_2 => exact h.elim
  rename_i hL
  split at h
  ·rename_i hv
   rw [Lc] at h
   simp only [hL, hv]; exact h
  rename_i hv
  rw [Lc] at h
  simp only [hL, hv]; exact h
 rename_i h1 h2 h3 h4
 obtain ⟨d, a, e, hk⟩ := Pw h
 split
 ·exact absurd rfl (h1 _ _ _)
 ·exact absurd rfl (h2 _ _ _ _)
 ·exact absurd rfl (h3 _ _ _)
 ·exact absurd rfl (h4 _ _)
 rw [e]; exact hk
def hk (hide kl : List Nat) : List Nat := match kl with
 | [] => hide
 | k :: r => hide ++ (k :: r)
theorem Ao7 (hide kl : List Nat) : hk hide kl = hide ++ kl := by
 cases kl with
 | nil => simp [hk]
 | cons k r => rfl
def Au0 (acc : St) (kl : List Nat) : Bool := match kl with
 | [] => true
 | k :: r => Lw acc (k :: r)
theorem Aj0 {acc : St} {kl : List Nat} (h : Au0 acc kl = true) : Lw acc kl = true := by
 cases kl with
 | nil => unfold Lw; simp
 | cons k r => exact h
def Arq (kl : List Nat) (acc : St) : St := match kl with
 | [] => acc
 | k :: r => C6 (k :: r) acc
theorem Ani (kl : List Nat) (acc : St) : Arq kl acc = C6 kl acc := by
 cases kl with
 | nil =>
   simp only [Arq]
   induction acc with
   | nil => rfl
   | cons e r ih => obtain ⟨d, a⟩ := e; simp [C6, ← ih]
 | cons k r => rfl
structure LendP (P : Program) (f d : Nat) (vs : List V) (rs : List Nat) (k : Nat) (p : List Nat) (T : V) (K : V → V → Prop) : Prop where
 h : ∃ v u T', Tri P f vs (fun res outs => res = v ∧ outs[k]? = some u) ∧ (G9 rs v = true ∧ G9 rs u = true ∧ u.node = true ∧ upd p T u = some T') ∧ K v T'
def Ak8 (P : Program) (o : AOp) (s : Nat) (σ : St) (K : Nat → V → Nat × V × Nat → Prop) : Prop := match o with
 | .call d f as => (match S0 (C7 σ as) with
   | some _ => False
   | none => Yz σ (C7 σ as) 0 fun vs ls rs => match ls with
     | [(k, r, p)] => (match Nat.beq r s && !rs.contains r with
       | true => (match look σ r with
         | .val T => LendP P f d vs rs k p T fun v T' => K d v (r, T', p.length + 1)
         | _ => False)
       | false => False)
     | _ => False)
 | _ => False
theorem Aiw {P : Program} {o : AOp} {s : Nat} {σ : St} {K : Nat → V → Nat × V × Nat → Prop} (h : Ak8 P o s σ K) : Vn P o s σ K := by
 unfold Ak8 at h
 unfold Vn
 split at h
 case h_2 => exact h.elim
 split at h
 ·exact h.elim
 rename_i hgv
 obtain ⟨vs, ls, rs, h1, h2⟩ := Kx h
 split at h2
 case h_2 => exact h2.elim
 rename_i k r p
 split at h2
 case h_2 => exact h2.elim
 rename_i hb
 simp only [Bool.and_eq_true, Bool.not_eq_true'] at hb
 split at h2
 case h_2 => exact h2.elim
 rename_i T hT
 simp only [hgv, h1, hT]
 exact ⟨⟨Nat.eq_of_beq_eq_true hb.1, hb.2⟩, h2.h⟩
def Aek (ls hide : List Nat) (cs : List (Nat × V × Nat)) (σ : St) : St := match ls with
 | [] => σ
 | l :: q => Kt (l :: q) hide cs σ
theorem Ata (σ : St) : W0 [] σ = σ := by
 induction σ with
 | nil => rfl
 | cons e r ih =>
   obtain ⟨k, a⟩ := e
   simp [W0, ih]
theorem Avl {ls hide : List Nat} {cs : List (Nat × V × Nat)} {σ : St} (hc : ∀ c ∈ cs, ls.contains c.1 = true) : Aek ls hide cs σ = Kt ls hide cs σ := by
 cases ls with
 | nil =>
   have : cs = [] := by
    cases cs with
    | nil => rfl
    | cons c q => have := hc c (by simp); simp at this
   subst this
   simp only [Aek, Kt, List.filter_nil, E6]
   have : (List.filter (fun x => ([] : List Nat).contains x) hide) = [] := by simp
   rw [this, Ata]
 | cons l q => rfl
abbrev Aq1 := St → List Nat → List (Nat × V × Nat) → (St → Prop) → Prop
def Arl (σ0 acc : St) (o : AOp) (hide kl : List Nat) (cs : List (Nat × V × Nat)) (K : St → Prop) (ih : Aq1) (acc1 : St) (d : Nat) (a : A) (ks : List Nat) : Prop := match Qr d acc σ0 with
 | true => (match ks with
   | [] => Bs (acc1 ++ [(d, a.mapR (As d 0))]) fun acc' => ih acc' kl cs K
   | k :: q => (match Xo (k :: q) o (C6 (hk hide kl) acc) with
     | true => Bs (acc1 ++ [(d, a.mapR (As d 0))]) fun acc' => Aet (kl ++ (k :: q)) fun kl' => ih acc' kl' cs K
     | false => False))
 | false => False
def Wn (σ0 acc : St) (o : AOp) (kl : List Nat) (cs : List (Nat × V × Nat)) (K : St → Prop) (ih : Aq1) (acc1 : St) : Prop := match o.dst with
 | some d => (match Qr d acc σ0 with
   | true => Bs (acc1 ++ [(d, .val (.tup []))]) fun acc' => ih acc' kl cs K
   | false => False)
 | none => False
def Ag9 (P : Program) (ls : List Nat) (σ0 acc : St) (o : AOp) (hide kl : List Nat) (cs : List (Nat × V × Nat)) (K : St → Prop) (ih : Aq1) (acc1 : St) : Prop :=
 Bs (C6 (hk hide kl) acc1 ++ Aek ls hide cs σ0) fun σh => Aqk P o σh (Arl σ0 acc o hide kl cs K ih acc1)
def Aq3 (P : Program) (ls : List Nat) (σ0 acc : St) (o : AOp) (s : Nat) (hide kl : List Nat) (cs : List (Nat × V × Nat)) (K : St → Prop) (ih : Aq1) : Prop :=
 Bs (C6 (hk hide kl) acc ++ Aek ls hide.tail cs σ0) fun σh => Ak8 P o s σh fun d v c => match Qr d acc σ0 && ls.contains s && Aqa (look σ0 s) && Nat.beq c.1 s with
  | true => Bs (acc ++ [(d, .val v)]) fun acc' => ih acc' kl (cs ++ [c]) K
  | false => False
def Zt (P : Program) (ls : List Nat) (σ0 : St) (x : G × List Nat) (ih : Aq1) (acc : St) (kl : List Nat) (cs : List (Nat × V × Nat)) (K : St → Prop) : Prop := match x with
 | (⟨none, o⟩, hide) => (match Kb o hide with
   | [] => Ag9 P ls σ0 acc o hide kl cs K ih acc
   | s :: _ => Aq3 P ls σ0 acc o s hide kl cs K ih)
 | (⟨some (s, true), o⟩, hide) => (match (hk hide kl).contains s || !(Kb o hide).isEmpty with
   | true => False
   | false => (match look (C6 (hk hide kl) acc ++ Aek ls hide cs σ0) s with
     | .val (.bool b) => Br b (Ag9 P ls σ0 acc o hide kl cs K ih (J8 s true acc)) (Wn σ0 acc o kl cs K ih (J8 s false acc))
     | .val (.tup []) => Wn σ0 acc o kl cs K ih acc
     | _ => False))
 | (⟨some (s, false), o⟩, hide) => (match (hk hide kl).contains s || !(Kb o hide).isEmpty with
   | true => False
   | false => (match look (C6 (hk hide kl) acc ++ Aek ls hide cs σ0) s with
     | .val (.bool b) => Br b (Wn σ0 acc o kl cs K ih (J8 s true acc)) (Ag9 P ls σ0 acc o hide kl cs K ih (J8 s false acc))
     | .val (.tup []) => Wn σ0 acc o kl cs K ih acc
     | _ => False))
def Aqv (σ0 acc : St) (kl : List Nat) (cs : List (Nat × V × Nat)) (K : St → Prop) : Prop := match Au0 acc kl with
 | true => (match cs with
   | [] => Bs (Arq kl acc ++ σ0) K
   | c :: q => (match Acw acc (c :: q) with
     | true => Bs (Arq kl acc ++ E6 (c :: q) σ0) K
     | false => False))
 | false => False
def Ajz (P : Program) (ls : List Nat) (σ0 : St) (l : List (G × List Nat)) : Aq1 :=
 List.rec (motive := fun _ => Aq1) (Aqv σ0) (fun x _ ih => Zt P ls σ0 x ih) l
theorem S5 {hide : List Nat} {acc σ0 : St} {s : Nat} {b : Bool} (h : look (C6 hide acc ++ σ0) s = .val (.bool b)) (hh : hide.contains s = false) : J8 s b acc = acc := by
 rw [En] at h
 split at h
 ·rw [Xn _ _ _ hh] at h
  exact N5 h
 rename_i hk
 rw [Wp] at hk
 have hk' : Ay s acc = false := by
  rw [hh] at hk; simpa using hk
 clear h hk
 induction acc with
 | nil => rfl
 | cons e r ih =>
   obtain ⟨k, a⟩ := e
   simp only [Ay, Bool.or_eq_false_iff, beq_eq_false_iff_ne] at hk'
   simp only [J8]
   rw [show Nat.beq k s = false by
    cases hb : Nat.beq k s with
    | false => rfl
    | true => exact absurd (Nat.eq_of_beq_eq_true hb) hk'.1]
   simp only [ih hk'.2]
theorem Aqb {P : Program} {o : AOp} {σ : St} {c c' : Nat → A → List Nat → Prop} (h : ∀ d a ks, c d a ks → c' d a ks) (ha : Og P o σ c) : Og P o σ c' := Xr h ha
theorem Acp {P : Program} {ls : List Nat} {σ0 : St} : ∀ {l : List (G × List Nat)} {acc : St} {kl : List Nat} {cs : List (Nat × V × Nat)} {KS : List (List Nat)} {CS : List (List (Nat × V × Nat))} {K : St → Prop}, KS.flatten = kl → CS.flatten = cs → (∀ c ∈ cs, ls.contains c.1 = true) → Ajz P ls σ0 l acc kl cs K → E0 P ls σ0 l acc KS CS K := by
 intro l
 induction l with
 | nil =>
   intro acc kl cs KS CS K hkl hcs hin h
   subst hkl
   change Aqv σ0 acc KS.flatten cs K at h
   simp only [Aqv] at h
   split at h
   ·rename_i hr
    split at h
    ·rw [A4, Ani] at h
     refine ⟨⟨Aj0 hr, ?_⟩, ?_⟩
     ·rw [hcs]; unfold Acw; simp
     ·rw [hcs]; exact h
    ·split at h
     ·rename_i hr2
      rw [A4, Ani] at h
      rw [← hcs] at h hr2
      exact ⟨⟨Aj0 hr, hr2⟩, h⟩
     ·exact h.elim
   ·exact h.elim
 | cons x r ih =>
   intro acc kl cs KS CS K hkl hcs hin h
   subst hkl
   obtain ⟨⟨g, o⟩, hide⟩ := x
   change Zt P ls σ0 (⟨g, o⟩, hide) (Ajz P ls σ0 r) acc KS.flatten cs K at h
   have hbk : ∀ hide, Aek ls hide cs σ0 = Kt ls hide CS.flatten σ0 := fun hide => by rw [Avl hin, hcs]
   have run : Ag9 P ls σ0 acc o hide KS.flatten cs K (Ajz P ls σ0 r) acc → Og P o (C6 (hide ++ KS.flatten) acc ++ Kt ls hide CS.flatten σ0) fun d a ks => (Qr d acc σ0 = true ∧ Xo ks o (C6 (hide ++ KS.flatten) acc) = true) ∧ E0 P ls σ0 r (acc ++ [(d, a.mapR (As d 0))]) (KS ++ [ks]) (CS ++ [[]]) K := by
    intro h
    unfold Ag9 at h
    rw [A4, Ao7, hbk] at h
    refine Aqb ?_ (Akp h)
    intro d a ks hk
    unfold Arl at hk
    rw [Ao7] at hk
    split at hk
    ·rename_i hf
     split at hk
     ·rw [A4] at hk
      exact ⟨⟨hf, rfl⟩, ih (by simp) (by simp [hcs]) hin hk⟩
     ·split at hk
      ·rename_i hkk
       rw [A4, Aka] at hk
       exact ⟨⟨hf, hkk⟩, ih (by simp) (by simp [hcs]) hin hk⟩
      ·exact hk.elim
    ·exact hk.elim
   have skip : Wn σ0 acc o KS.flatten cs K (Ajz P ls σ0 r) acc → (match o.dst with
      | some d => Qr d acc σ0 = true ∧ E0 P ls σ0 r (acc ++ [(d, .val (.tup []))]) (KS ++ [[]]) (CS ++ [[]]) K
      | none => False) := by
    intro h
    unfold Wn at h
    cases hd : o.dst with
    | none => rw [hd] at h; exact h.elim
    | some d =>
      rw [hd] at h
      cases hf : Qr d acc σ0 with
      | false => simp only [hf] at h
      | true =>
        simp only [hf] at h
        rw [A4] at h
        exact ⟨hf, ih (by simp) (by simp [hcs]) hin h⟩
   match g, h with
   | none, h =>
     simp only [Zt] at h
     simp only [E0]
     cases hlo : Kb o hide with
     | nil => rw [hlo] at h; exact run h
     | cons s q =>
       rw [hlo] at h
       simp only at h ⊢
       unfold Aq3 at h
       rw [A4, Ao7, hbk] at h
       refine Acj ?_ (Aiw h)
       intro d v c hc
       split at hc
       case h_2 => exact hc.elim
       rename_i hcond
       simp only [Bool.and_eq_true] at hcond
       rw [A4] at hc
       refine ⟨⟨hcond.1.1.1, hcond.1.1.2, hcond.1.2⟩, ih (by simp) (by simp [hcs]) ?_ hc⟩
       intro c' hc'
       rcases List.mem_append.1 hc' with h1 | h1
       ·exact hin c' h1
       ·simp at h1
        subst h1
        rw [Nat.eq_of_beq_eq_true hcond.2]; exact hcond.1.1.2
   | some (s, true), h =>
     simp only [Zt, Ao7, hbk] at h
     simp only [E0]
     split at h
     ·exact h.elim
     rename_i hh
     simp only [Bool.or_eq_false_iff, Bool.not_eq_false', List.isEmpty_iff] at hh
     refine ⟨hh.2, ?_⟩
     replace hh := hh.1
     split at h
     ·rename_i b hb
      simp only [hb]
      refine ⟨fun e => ?_, fun e => ?_⟩
      ·subst e
       have := h.t rfl
       rw [S5 hb hh] at this
       exact run this
      ·have e' : b = false := by simpa using e
       subst e'
       have := h.f rfl
       rw [S5 hb hh] at this
       exact skip this
     ·rename_i hb
      simp only [hb]
      exact skip h
     ·exact h.elim
   | some (s, false), h =>
     simp only [Zt, Ao7, hbk] at h
     simp only [E0]
     split at h
     ·exact h.elim
     rename_i hh
     simp only [Bool.or_eq_false_iff, Bool.not_eq_false', List.isEmpty_iff] at hh
     refine ⟨hh.2, ?_⟩
     replace hh := hh.1
     split at h
     ·rename_i b hb
      simp only [hb]
      refine ⟨fun e => ?_, fun e => ?_⟩
      ·subst e
       have := h.f rfl
       rw [S5 hb hh] at this
       exact run this
      ·have e' : b = true := by simpa using e
       subst e'
       have := h.t rfl
       rw [S5 hb hh] at this
       exact skip this
     ·rename_i hb
      simp only [hb]
      exact skip h
     ·exact h.elim
structure SameQ (x y : A) (K : Prop) : Prop where
 h : x = y ∧ K
def Akv (A : List (Nat × AOp)) (K : St → Prop) : St → Prop :=
 List.rec (motive := fun _ => St → Prop) K (fun e _ ih σ => Acb e.2 σ fun d a => match W3 a with
  | true => Bs (A6 d a σ) ih
  | false => False) A
def Ae6 (xs : List Nat) (σ : St) (K : Prop) (A : List (Nat × AOp)) : Prop :=
 List.rec (motive := fun _ => Prop) K (fun e _ ih => match xs.contains e.1 with
  | true => Acb e.2 σ fun d a => match Aop a d σ with
    | true => SameQ (look σ d) a ih
    | false => False
  | false => ih) A
def Wi (P : Program) (o : AOp) (ds : List Nat) (σ : St) (K : St → Prop) : Prop := match ds with
 | [] => Apo P o σ K
 | s :: q => (match o with
   | .app d m x y => yK σ m (Ai σ y) fun ys σ1 => Abt σ1 (Ai σ1 x) fun v σ2 => match v with
     | .sl o m' xs => (match o with
       | true => (match Nat.beq m' m with
         | true => AppQ d xs ys fun l => Bs (Ho (s :: q) (A6 d (.val (.sl true m l)) σ2)) K
         | false => False)
       | false => False)
     | _ => False
   | .slt d m x hi => (match Ao5 (Ai σ hi) with
     | some h => Abt σ (Ai σ x) fun v σ2 => match v with
       | .sl o m' xs => (match o with
         | true => (match Nat.beq m' m with
           | true => SlcQ xs 0 h fun ys => Bs (Ho (s :: q) (A6 d (.val (.sl true m ys)) σ2)) K
           | false => False)
         | false => False)
       | _ => False
     | none => False)
   | _ => False)
theorem Ath (σ : St) : Ho [] σ = σ := by
 have key : ∀ a : A, a.mapR (Agx []) = a := by
  intro a
  have e : Agx [] = fun r _ => some r := by funext r p; simp [Agx]
  rw [e]; exact Aq8 a
 induction σ with
 | nil => rfl
 | cons e r ih => obtain ⟨k, a⟩ := e; simp [Ho, ih, key]
theorem Xb {P : Program} {o : AOp} {ds : List Nat} {σ : St} {K : St → Prop} (h : Wi P o ds σ K) : M0 P o (fun σ' => K (Ho ds σ')) σ := by
 unfold Wi at h
 split at h
 ·refine Iz (fun σ' hk => ?_) (Agu h)
  rw [Ath]; exact hk
 split at h
 case h_3 => exact h.elim
 ·obtain ⟨ys, σ1, hy, hk⟩ := Aq6 h
  obtain ⟨v, σ2, hX, hk⟩ := Py hk
  split at hk
  case h_2 => exact hk.elim
  split at hk
  case h_2 => exact hk.elim
  split at hk
  case h_2 => exact hk.elim
  rename_i hm
  have hm' := Nat.eq_of_beq_eq_true hm
  obtain ⟨h1, h2, h3⟩ := hk.h
  rw [A4] at h3
  simp only [M0, V9, Uh, Aad, B1, Asp, hy, hX, hm', h1, h2]
  simpa using h3
 split at h
 case h_2 => exact h.elim
 rename_i hh hn
 obtain ⟨v, σ2, hX, hk⟩ := Py h
 split at hk
 case h_2 => exact hk.elim
 split at hk
 case h_2 => exact hk.elim
 split at hk
 case h_2 => exact hk.elim
 rename_i hm
 have hm' := Nat.eq_of_beq_eq_true hm
 obtain ⟨_, h1, h2, h3⟩ := hk.h
 rw [A4] at h3
 simp only [M0, V9, Uh, Aad, B1, Au7, hn, hX, hm', h1, h2, and_self, if_true]
 simpa using h3
structure Two (X Y : Prop) : Prop where
 h : X ∧ Y
def Agb (P : Program) (A : List (Nat × AOp)) (K : St → Prop) (pl : LPlan) : Bool → St → Prop :=
 LPlan.rec (motive := fun _ => Bool → St → Prop) (fun b σ => match b with
  | true => K σ
  | false => True) (fun _ x xs ds _ ot ihn iho _ σ => match ot with
    | .nil => Ae6 xs σ (Wi P x ds σ (ihn true)) A
    | .alt .. => Two (Ae6 xs σ (Wi P x ds σ (ihn true)) A) (iho false σ)) pl
theorem Aji : ∀ {A : List (Nat × AOp)} {K : St → Prop} {σ}, Akv A K σ → Il A K σ := by
 intro A
 induction A with
 | nil => intro K σ h; exact h
 | cons e r ih =>
   intro K σ h
   obtain ⟨i, x⟩ := e
   have h' : Acb x σ fun d a => match W3 a with
    | true => Bs (A6 d a σ) (Akv r K)
    | false => False := h
   obtain ⟨d, a, h1, h2⟩ := Pw h'
   simp only [Il, h1]
   split at h2
   ·rename_i hu
    rw [A4] at h2
    exact ⟨hu, ih h2⟩
   ·exact h2.elim
theorem Acn {xs : List Nat} {σ : St} {K : Prop} : ∀ {A : List (Nat × AOp)}, Ae6 xs σ K A → Aqo A xs σ ∧ K := by
 intro A
 induction A with
 | nil => intro h; exact ⟨(fun e he => by cases he), h⟩
 | cons e r ih =>
   intro h
   change (match xs.contains e.1 with
    | true => Acb e.2 σ fun d a => match Aop a d σ with
      | true => SameQ (look σ d) a (Ae6 xs σ K r)
      | false => False
    | false => Ae6 xs σ K r) at h
   split at h
   ·obtain ⟨d, a, h1, h2⟩ := Pw h
    split at h2
    ·rename_i hu
     obtain ⟨h3, h4⟩ := h2.h
     obtain ⟨h5, h6⟩ := ih h4
     refine ⟨fun f hf hx => ?_, h6⟩
     rcases List.mem_cons.1 hf with rfl | hf
     ·exact ⟨d, a, h1, h3, hu⟩
     ·exact h5 f hf hx
    ·exact h2.elim
   ·rename_i hx
    obtain ⟨h5, h6⟩ := ih h
    refine ⟨fun f hf hx2 => ?_, h6⟩
    rcases List.mem_cons.1 hf with rfl | hf
    ·rw [hx] at hx2; cases hx2
    ·exact h5 f hf hx2
theorem Amg {P : Program} {A : List (Nat × AOp)} {K : St → Prop} : ∀ {pl : LPlan} {b : Bool} {σ}, Agb P A K pl b σ → L6 P A K pl b σ := by
 intro pl
 induction pl with
 | nil => intro b σ h hb; subst hb; exact h
 | alt i x xs ds nx ot ih1 ih2 =>
   intro b σ h
   cases ot with
   | nil =>
     change Ae6 xs σ (Wi P x ds σ (Agb P A K nx true)) A at h
     obtain ⟨h1, h2⟩ := Acn h
     exact ⟨⟨h1, Iz (fun _ => ih1) (Xb h2)⟩, fun hb => by cases hb⟩
   | alt j y ys es ny oy =>
     change Two (Ae6 xs σ (Wi P x ds σ (Agb P A K nx true)) A) (Agb P A K (.alt j y ys es ny oy) false σ) at h
     obtain ⟨h1, h2⟩ := Acn h.h.1
     exact ⟨⟨h1, Iz (fun _ => ih1) (Xb h2)⟩, ih2 h.h.2⟩
structure FrzQ (T : V) (n : Nat) (K : V → Prop) : Prop where
 h : ∃ T', T.fzAt n = T' ∧ K T'
def Avw : List Nat → (St → Prop) → St → Prop
 | [], K, σ => K σ
 | e :: r, K, σ => match look σ (e % 100000) with
   | .val T => FrzQ T (e / 100000) fun T' => Bs (A6 (e % 100000) (.val T') (A6 (e % 100000) .top σ)) (Avw r K)
   | _ => Avw r K σ
theorem Apu : ∀ {ss : List Nat} {K : St → Prop} {σ : St}, Avw ss K σ → K (Av0 ss σ) := by
 intro ss
 induction ss with
 | nil => intro K σ h; exact h
 | cons e r ih =>
   intro K σ h
   simp only [Avw] at h
   simp only [Av0, Aqf]
   split at h
   ·rename_i T hT
    obtain ⟨T', h1, h2⟩ := h.h
    subst h1
    rw [A4] at h2
    simp only [hT]
    exact ih h2
   ·rename_i hne
    have := ih h
    split
    ·rename_i T hT; exact absurd hT (hne T)
    ·exact this
structure LoopQ (P : Program) (c : ACode) (Q : Ex → St → Prop) (σ : St) : Prop where
 h : awp P (.loop c) Q σ
structure CutQ (P : Program) (c : ACode) (Q : Ex → St → Prop) (σ : St) : Prop where
 h : awp P (.cut c) Q σ
def vc (P : Program) : ACode → (Ex → St → Prop) → St → Prop
 | .skip, Q, σ => Q .normal σ
 | .reg gs, Q, σ => N8 P gs (Q .normal) σ
 | .dreg pre post, Q, σ => Ajz P (P0 pre) σ pre [] [] [] (N8 P post (Q .normal))
 | .dregp n0 ds pre post, Q, σ => N8 P ((pre.take n0).map (·.1)) (fun σ1 => match Zm n0 (Ho ds σ1) with
   | true => Bs (Ho ds σ1) fun σ2 => Bs (Tz n0) fun acc => Ajz P (P0 pre) σ2 (pre.drop n0) acc [] [] (N8 P post (Q .normal))
   | false => False) σ
 | .seq a b, Q, σ => vc P a (Xc (vc P b Q) Q) σ
 | .cond x t e, Q, σ => match Ai σ x with
   | .val (.bool b) => Br b (Bs (Ayz x true σ) (vc P t Q)) (Bs (Ayz x false σ) (vc P e Q))
   | _ => False
 | .block i c, Q, σ => vc P c (Als i Q) σ
 | .loop c, Q, σ => LoopQ P c Q σ
 | .exit i, Q, σ => Q (.exit i) σ
 | .ret, Q, σ => Q .ret σ
 | .drop ds c, Q, σ => Bs (Ho ds σ) (vc P c Q)
 | .cut c, Q, σ => CutQ P c Q σ
 | .dregl A pl, Q, σ => Akv A (Agb P A (Q .normal) pl true) σ
 | .frz ss c, Q, σ => Avw ss (vc P c Q) σ
theorem Ary {x : X} {b : Bool} {σ : St} (h : Ai σ x = .val (.bool b)) : Ayz x b σ = σ := by
 cases x with
 | c v => rfl
 | t s =>
   refine N5 ?_
   simp only [Ai] at h
   split at h
   ·rename_i v hv
    split at h
    ·cases h
    ·rw [hv]; exact h
   ·exact h
theorem U4 {P : Program} : ∀ {c : ACode} {Q : Ex → St → Prop} {σ : St}, vc P c Q σ → awp P c Q σ := by
 intro c
 induction c with
 | skip => intro Q σ h; exact h
 | reg gs => intro Q σ h; exact Pp h
 | dreg pre post => intro Q σ h; exact P8 (fun _ => Pp) (Acp rfl rfl (by simp) h)
 | dregp n0 ds pre post =>
   intro Q σ h
   refine Mo (fun σ1 h1 => ?_) (Pp h)
   split at h1
   ·rename_i hd
    rw [A4, A4] at h1
    refine ⟨hd, P8 (fun _ => Pp) (Acp (by simp) (by simp) (by simp) h1)⟩
   ·exact h1.elim
 | seq a b ih1 ih2 =>
   intro Q σ h
   have h' : vc P a (Xc (vc P b Q) Q) σ := h
   show awp P a (Xc (awp P b Q) Q) σ
   exact On (Q := Xc (vc P b Q) Q) (Lr (fun _ hh => ih2 hh) fun _ _ => id) (ih1 h')
 | cond x t e ih1 ih2 =>
   intro Q σ h
   simp only [vc] at h
   simp only [awp]
   split at h
   ·rename_i b hb
    simp only [hb]
    refine ⟨fun e => ?_, fun e => ?_⟩
    ·subst e
     have := h.t rfl
     rw [A4, Ary hb] at this
     exact ih1 this
    ·subst e
     have := h.f rfl
     rw [A4, Ary hb] at this
     exact ih2 this
   ·exact h.elim
 | block i c ih => intro Q σ h; exact ih h
 | loop c ih => intro Q σ h; exact h.h
 | exit i => intro Q σ h; exact h
 | ret => intro Q σ h; exact h
 | drop ds c ih => intro Q σ h; simp only [vc] at h; rw [A4] at h; exact ih h
 | cut c ih => intro Q σ h; exact h.h
 | frz ss c ih => intro Q σ h; simp only [vc] at h; exact ih (Apu h)
 | dregl A R => intro Q σ h; exact W9 (fun _ => Amg) (Aji h)
theorem Akf {P : Program} {f N : Nat} {ac : ACode} {rs : List RS} {args : List V} {R : V → List V → Prop} (hf : Az P f N ac rs = true) (hn : args.length ≤ N)
  (h : vc P ac (Atl N rs args R) (entry N 0 args)) : Tri P f args R := Avp hf hn (U4 h)
def Ayh {α : Type} (ks : List Nat) (st : α → St) (inv : α → Prop) (μ : α → Nat) (a : α) (σ : St) : Prop := ∃ b, restrict ks σ = st b ∧ inv b ∧ μ b < μ a
theorem LoopQ.by {α : Type} {P : Program} {c : ACode} {Q : Ex → St → Prop} {σ : St} (ks : List Nat) (st : α → St) (inv : α → Prop) (μ : α → Nat) (a0 : α) (h0 : restrict ks σ = st a0) (hi : inv a0)
  (hr : ∀ a, inv a → vc P c (Xc (Ayh ks st inv μ a) Q) (st a)) : LoopQ P c Q σ := by
 refine ⟨Avb ks (fun n σ => ∃ a, σ = st a ∧ inv a ∧ n = μ a) (μ a0) ⟨a0, h0, hi, rfl⟩ ?_⟩
 rintro n σ ⟨a, rfl, ha, rfl⟩
 refine On (Lr ?_ fun _ _ => .inl) (U4 (hr a ha))
 rintro σ' ⟨b, h1, h2, h3⟩
 exact ⟨μ b, h3, b, h1, h2, rfl⟩
def Ret (P : Program) (f : Nat) (vs : List V) (v : V) : Prop := Tri P f vs (fun r _ => r = v)
theorem Av {P : Program} {f N : Nat} {ac : ACode} {rs : List RS} {args : List V} {v : V} (hf : Az P f N ac rs = true) (hn : args.length ≤ N)
  (h : vc P ac (Atl N rs args fun r _ => r = v) (entry N 0 args)) : Ret P f args v := Akf hf hn h
abbrev Ag (n : Int) : V := .int .i64 n
end Go.Proofs.Ytiakjbigaaanhaa.Ax
namespace Go.Proofs.Ytiakjbigaaanhaa.Ax
open Go
noncomputable def ask {α : Type} (p : Prop) (x : Option α) : Option α := @ite _ p (Classical.propDecidable p) x none
def nth {α : Type} [Inhabited α] (xs : List α) (i : Nat) : α := xs.getD i default
theorem Ow {α : Type} {p : Prop} {x : Option α} {v : α} : ask p x = some v ↔ p ∧ x = some v := by
 unfold ask; split <;> simp_all
theorem Af {α : Type} {p : Prop} {x : Option α} (h : p) : ask p x = x := by unfold ask; rw [if_pos h]
def Ade {σ τ : Type} (body : σ → Option (σ ⊕ τ)) : Nat → σ → Option τ
 | 0, _ => none
 | n + 1, s => match body s with
   | none => none
   | some (.inl s') => Ade body n s'
   | some (.inr t) => some t
theorem Art {σ τ : Type} {body : σ → Option (σ ⊕ τ)} : ∀ {n m : Nat} {s : σ} {t : τ}, n ≤ m → Ade body n s = some t → Ade body m s = some t := by
 intro n
 induction n with
 | zero => intro m s t _ h; cases h
 | succ n ih =>
   intro m s t hm h
   match m, hm with
   | m + 1, hm =>
     simp only [Ade] at h ⊢
     split at h
     ·cases h
     ·exact ih (by omega) h
     ·exact h
open Classical in
noncomputable def Am {σ τ : Type} (body : σ → Option (σ ⊕ τ)) (s : σ) : Option τ := if h : ∃ t n, Ade body n s = some t then some (Classical.choose h) else none
theorem Lb {σ τ : Type} {body : σ → Option (σ ⊕ τ)} {s : σ} {t : τ} : Am body s = some t ↔ ∃ n, Ade body n s = some t := by
 unfold Am
 constructor
 ·intro h
  split at h
  ·rename_i hx
   cases h
   exact Classical.choose_spec hx
  cases h
 rintro ⟨n, hn⟩
 rw [dif_pos ⟨t, n, hn⟩]
 obtain ⟨m, hm⟩ := Classical.choose_spec (⟨t, n, hn⟩ : ∃ t n, Ade body n s = some t)
 have h1 := Art (Nat.le_max_left n m) hn
 have h2 := Art (Nat.le_max_right n m) hm
 rw [h1] at h2
 exact h2.symm
theorem And {σ τ : Type} (body : σ → Option (σ ⊕ τ)) (s : σ) : Am body s = (match body s with
  | none => none
  | some (.inl s') => Am body s'
  | some (.inr t) => some t) := by
 apply Option.ext
 intro t
 rw [Lb]
 constructor
 ·rintro ⟨n, hn⟩
  cases n with
  | zero => cases hn
  | succ n =>
    simp only [Ade] at hn
    split at hn
    ·cases hn
    ·exact Lb.2 ⟨n, hn⟩
    ·exact hn
 intro h
 split at h
 ·cases h
 ·rename_i s' e
  obtain ⟨n, hn⟩ := Lb.1 h
  exact ⟨n + 1, by simp only [Ade, e]; exact hn⟩
 rename_i t' e
 exact ⟨1, by simp only [Ade, e]; exact h⟩
def upO {α : Type} (f : Nat → Option α) : Prop := ∀ n m v, n ≤ m → f n = some v → f m = some v
open Classical in
noncomputable def Anr {α : Type} (f : Nat → Option α) : Option α := if h : ∃ v n, f n = some v then some (Classical.choose h) else none
theorem Atk {α : Type} {f : Nat → Option α} {v : α} (h : Anr f = some v) : ∃ n, f n = some v := by
 unfold Anr at h
 split at h
 ·rename_i hx
  cases h
  exact Classical.choose_spec hx
 cases h
theorem Awz {α : Type} {f : Nat → Option α} (hu : upO f) {v : α} {n : Nat} (h : f n = some v) : Anr f = some v := by
 unfold Anr
 rw [dif_pos ⟨v, n, h⟩]
 obtain ⟨m, hm⟩ := Classical.choose_spec (⟨v, n, h⟩ : ∃ v n, f n = some v)
 have h1 := hu _ _ _ (Nat.le_max_left n m) h
 have h2 := hu _ _ _ (Nat.le_max_right n m) hm
 rw [h1] at h2
 exact h2.symm
abbrev Al (α : Type) : List α := []
abbrev slr {α : Type} (o : Bool) (m : Nat) (f : α → V) (xs : List α) : V := .sl o m (xs.map f)
class Fz {α : Type} (f : α → V) (g : outParam (α → V)) : Prop where
 eq : ∀ x, (f x).fz = g x
instance {k : IntKind} : Fz (V.int k) (V.int k) := ⟨fun _ => rfl⟩
instance : Fz Ag Ag := ⟨fun _ => rfl⟩
instance : Fz V.bool V.bool := ⟨fun _ => rfl⟩
instance : Fz V.str V.str := ⟨fun _ => rfl⟩
theorem Ab {α : Type} (f : α → V) {g : α → V} [Fz f g] (xs : List α) : fzL (xs.map f) = xs.map g := by
 induction xs with
 | nil => rfl
 | cons x r ih => simp [fzL, Fz.eq, ih]
instance {α : Type} (m : Nat) (f g : α → V) [Fz f g] : Fz (slr true m f) (slr false m g) := ⟨fun x => by simp [slr, V.fz, Ab]⟩
instance {α : Type} (m : Nat) (f : α → V) : Fz (slr false m f) (slr false m f) := ⟨fun x => by simp [slr, V.fz]⟩
theorem Ac {α : Type} (m : Nat) (f : α → V) {g : α → V} [Fz f g] (xs : List α) : V.fz (.sl true m (xs.map f)) = .sl false m (xs.map g) := by simp [V.fz, Ab]
theorem Ad {α : Type} (f : α → V) {g : α → V} [Fz f g] (x : α) : V.fz (f x) = g x := Fz.eq x
abbrev rA2 {α : Type} (f : α → V) (p : α × α) : V := .agg [f p.1, f p.2]
abbrev rA3 {α : Type} (f : α → V) (p : α × α × α) : V := .agg [f p.1, f p.2.1, f p.2.2]
abbrev rP {α : Type} (o : Bool) (f : α → V) (x : α) : V := .ptr o (f x)
abbrev rO {α : Type} (o : Bool) (f : α → V) : Option α → V
 | none => .nilp
 | some x => .ptr o (f x)
instance {α : Type} (f g : α → V) [Fz f g] : Fz (rP true f) (rP false g) := ⟨fun x => by simp [V.fz, Fz.eq]⟩
instance {α : Type} (f g : α → V) [Fz f g] : Fz (rO true f) (rO false g) := ⟨fun x => by cases x <;> simp [rO, V.fz, Fz.eq]⟩
instance {α : Type} (f g : α → V) [Fz f g] : Fz (rA2 f) (rA2 g) := ⟨fun x => by simp [V.fz, fzL, Fz.eq]⟩
instance {α : Type} (f g : α → V) [Fz f g] : Fz (rA3 f) (rA3 g) := ⟨fun x => by simp [V.fz, fzL, Fz.eq]⟩
def One {α : Type} (f : α → V) : Prop := ∀ x, (f x).cells = [f x] ∧ (f x).isAgg = false
def S3 {α : Type} (m : Nat) (f : α → V) : Prop := ∀ x, (f x).cells.length = m ∧ Cs (f x).cells = true
section
variable {α ρ : Type} {v : ρ} {x y : Option ρ} {X Y : Prop}
theorem Br.od {p : Prop} [Decidable p] (h : (if p then x else y) = some v) (h1 : p → x = some v → X) (h2 : ¬ p → y = some v → Y) : Br (decide p) X Y := by
 by_cases hp : p
 ·rw [if_pos hp] at h; exact ⟨fun _ => h1 hp h, fun e => absurd hp (of_decide_eq_false e)⟩
 rw [if_neg hp] at h; exact ⟨fun e => absurd (of_decide_eq_true e) hp, fun _ => h2 hp h⟩
theorem Br.oe {a b : Int} (h : (if a = b then x else y) = some v) (h1 : a = b → x = some v → X) (h2 : ¬ a = b → y = some v → Y) : Br (a == b) X Y := by
 have : (a == b) = decide (a = b) := by rw [Bool.eq_iff_iff]; simp
 rw [this]; exact Br.od h h1 h2
theorem Br.on {a b : Int} (h : (if a ≠ b then x else y) = some v) (h1 : a ≠ b → x = some v → X) (h2 : ¬ a ≠ b → y = some v → Y) : Br (a != b) X Y := by
 have : (a != b) = decide (a ≠ b) := by rw [Bool.eq_iff_iff]; simp
 rw [this]; exact Br.od h h1 h2
theorem Br.ob {b : Bool} (h : (if b = true then x else y) = some v) (h1 : b = true → x = some v → X) (h2 : ¬ b = true → y = some v → Y) : Br b X Y := by
 cases b
 ·exact ⟨fun e => Bool.noConfusion e, fun _ => h2 (by simp) (by simpa using h)⟩
 exact ⟨fun _ => h1 rfl (by simpa using h), fun e => Bool.noConfusion e⟩
theorem Br.flip {b : Bool} (h : Br b Y X) : Br (!b) X Y := by
 cases b
 ·exact ⟨fun _ => h.f rfl, fun e => Bool.noConfusion e⟩
 exact ⟨fun e => Bool.noConfusion e, fun _ => h.t rfl⟩
theorem Ask.o {p : Prop} (h : ask p x = some v) (hk : p → x = some v → X) : Ask p X := by
 obtain ⟨h1, h2⟩ := Ow.1 h
 exact ⟨h1, hk h1 h2⟩
theorem Idx.o {j : Int} {lo n : Nat} {K : Int → Prop} (h : (if j = lo then x else y) = some v) (h1 : x = some v → K lo) (h2 : y = some v → Idx j (lo + 1) n K) : Idx j lo n K := by
 refine ⟨fun a b => ?_⟩
 by_cases hj : j = lo
 ·rw [if_pos hj] at h; rw [hj]; exact h1 h
 rw [if_neg hj] at h; exact (h2 h).h (by omega) b
theorem Idx.lit {j : Int} {lo n : Nat} {K : Int → Prop} (h : K j) : Idx j lo n K := ⟨fun _ _ => h⟩
theorem Len.nil {K : Nat → Prop} (h : K 0) : Len [] K := ⟨h⟩
theorem Len.cons {u : V} {us : List V} {K : Nat → Prop} (h : Len us fun n => K (n + 1)) : Len (u :: us) K := ⟨h.h⟩
variable {f : α → V}
theorem Awg [Inhabited α] (f : α → V) {xs : List α} {j : Nat} (hj : j < xs.length) : (xs.map f).getD j .dead = f (nth xs j) := by
 simp [List.getD_eq_getElem?_getD, nth, hj]
theorem Elem.o [Inhabited α] {xs : List α} {j : Nat} {K : V → Prop} (hj : j < xs.length) (hk : K (f (nth xs j))) : Elem (xs.map f) j K := ⟨by rw [Awg f hj]; exact hk⟩
theorem Aac (hf : One f) (xs : List α) : Bi (xs.map f) = xs.map f := by
 induction xs with
 | nil => rfl
 | cons x r ih => simp only [List.map_cons, Bi, (hf x).1, ih]; rfl
theorem At5 [Inhabited α] (f : α → V) {xs : List α} {c : Nat} (hc : c < xs.length) : (xs.map f).drop c = f (nth xs c) :: (xs.map f).drop (c + 1) := by
 rw [List.drop_eq_getElem_cons (by simpa using hc)]
 simp [nth, List.getD_eq_getElem?_getD, hc]
theorem Cells.one [Inhabited α] (hf : One f) {xs : List α} {c : Nat} {K : List V → Prop} (hc : c < xs.length) (hk : K [f (nth xs c)]) : Cells (Bi (xs.map f)) c 1 K := by
 refine ⟨_, ?_, ?_, hk⟩
 ·rw [Aac hf, List.length_map]; exact hc
 rw [Aac hf, At5 f hc]; rfl
theorem Ajy [Inhabited α] {m : Nat} (hf : S3 m f) : ∀ {xs : List α} {i : Nat}, i < xs.length → ∃ l r, Bi (xs.map f) = l ++ ((f (nth xs i)).cells ++ r) ∧ l.length = i * m := by
 intro xs
 induction xs with
 | nil => intro i h; simp at h
 | cons x t ih =>
   intro i h
   cases i with
   | zero => exact ⟨[], Bi (t.map f), rfl, by simp⟩
   | succ i =>
     obtain ⟨l, r, e, hl⟩ := ih (i := i) (by simpa using h)
     refine ⟨(f x).cells ++ l, r, by simp only [List.map_cons, Bi, e, List.append_assoc]; rfl, ?_⟩
     rw [List.length_append, (hf x).1, hl, Nat.succ_mul]; omega
theorem Cells.wide [Inhabited α] {m : Nat} (hf : S3 m f) {xs : List α} {i off n : Nat} {K : List V → Prop} (hi : i < xs.length) (hn : off + n ≤ m) (hk : K (((f (nth xs i)).cells.drop off).take n)) :
  Cells (Bi (xs.map f)) (Ap i m + off) n K := by
 obtain ⟨l, r, e, hl⟩ := Ajy hf hi
 have hw := (hf (nth xs i)).1
 refine ⟨_, ?_, ?_, hk⟩
 ·rw [e, Qp, List.length_append, List.length_append, hl, hw]; omega
 rw [e, Qp, ← hl, ← List.drop_drop, List.drop_left, List.drop_append_of_le_length (by omega), List.take_append_of_le_length (by simp; omega)]
theorem Cells.lit {xs us : List V} {c n : Nat} {K : List V → Prop} (h : Nat.ble (c + n) xs.length = true) (e : (xs.drop c).take n = us) (hk : K us) : Cells xs c n K := ⟨us, Nat.le_of_ble_eq_true h, e, hk⟩
theorem Kid.one [Inhabited α] (hf : One f) {m : Nat} {xs : List α} {c : Nat} {K : V → Prop} (hc : c < xs.length) (hk : K (f (nth xs c))) : Kid (.sl true m (xs.map f)) c K :=
 ⟨_, rfl, by simp only [V.kids, Aac hf]; simp [nth, List.getD_eq_getElem?_getD, hc], hk⟩
theorem Kid.wide [Inhabited α] {m : Nat} (hf : S3 m f) {xs : List α} {i off : Nat} {u : V} {K : V → Prop} (hi : i < xs.length) (hu : (f (nth xs i)).cells[off]? = some u) (hk : K u) : Kid (.sl true m (xs.map f)) (Ap i m + off) K := by
 obtain ⟨l, r, e, hl⟩ := Ajy hf hi
 refine ⟨u, rfl, ?_, hk⟩
 have ho : off < (f (nth xs i)).cells.length := (List.getElem?_eq_some_iff.1 hu).1
 simp only [V.kids, e]
 rw [Qp, List.getElem?_append_right (by omega), hl, Nat.add_sub_cancel_left, List.getElem?_append_left ho, hu]
theorem Kid.lit {T k : V} {c : Nat} {K : V → Prop} (h1 : T.stepOk = true) (h2 : T.kids[c]? = some k) (hk : K k) : Kid T c K := ⟨k, h1, h2, hk⟩
theorem As0 (hf : One f) : ∀ {xs : List α} {c : Nat} (w : α), c < xs.length → Md (xs.map f) c [f w] = some ((xs.set c w).map f) := by
 intro xs
 induction xs with
 | nil => intro c w h; simp at h
 | cons x r ih =>
   intro c w h
   have hlen : (f x).cells.length = 1 := by rw [(hf x).1]; rfl
   simp only [List.map_cons, Md, hlen]
   cases c with
   | zero =>
     have : (f x).setCells 0 [f w] = some (f w) := by
      have hx := (hf x).2
      have hv := (hf w).2
      unfold V.setCells
      split
      ·simp_all [V.isAgg]
      ·simp [Agg, hv]
     simp [this]
   | succ c =>
     have := ih (c := c) w (by simpa using h)
     simp [this]
theorem Aqh (hf : One f) : ∀ {xs : List α} {c : Nat} (w : α), c < xs.length → Md ((xs.map f).set c .dead) c [f w] = some ((xs.set c w).map f) := by
 intro xs
 induction xs with
 | nil => intro c w h; simp at h
 | cons x r ih =>
   intro c w h
   have hlen : (f x).cells.length = 1 := by rw [(hf x).1]; rfl
   cases c with
   | zero =>
     simp only [List.map_cons, List.set_cons_zero, Md]
     simp [V.cells, V.setCells, Agg, (hf w).2]
   | succ c =>
     have := ih (c := c) w (by simpa using h)
     simp [Md, hlen, this]
theorem SetKids.fill (hf : One f) {o : Bool} {m : Nat} {xs : List α} {c : Nat} {us : List V} {K : V → Prop} (w : α) (e : us = [f w]) (hc : c < xs.length) (hk : K (.sl o m ((xs.set c w).map f))) : SetKids (.sl o m (Axo f xs c)) c us K := by
 subst e
 exact ⟨_, by simp only [V.setKids, Axo, Aqh hf w hc, Option.map_some], hk⟩
theorem SetKids.one (hf : One f) {o : Bool} {m : Nat} {xs : List α} {c : Nat} {us : List V} {K : V → Prop} (w : α) (e : us = [f w]) (hc : c < xs.length) (hk : K (.sl o m ((xs.set c w).map f))) : SetKids (.sl o m (xs.map f)) c us K := by
 subst e
 exact ⟨_, by simp only [V.setKids, As0 hf w hc, Option.map_some], hk⟩
theorem Aqc [Inhabited α] {m : Nat} (hf : S3 m f) : ∀ {xs : List α} {i off : Nat} {us : List V} (w : α), i < xs.length → (f (nth xs i)).setCells off us = some (f w) → off < m → Md (xs.map f) (i * m + off) us = some ((xs.set i w).map f) := by
 intro xs
 induction xs with
 | nil => intro i off us w h; simp at h
 | cons x r ih =>
   intro i off us w h hs ho
   simp only [List.map_cons, Md, (hf x).1]
   cases i with
   | zero =>
     have hs' : (f x).setCells off us = some (f w) := hs
     simp [ho, hs']
   | succ i =>
     have := ih (i := i) (off := off) (us := us) w (by simpa using h) hs ho
     rw [if_neg (by rw [Nat.succ_mul]; omega), show (i + 1) * m + off - m = i * m + off by rw [Nat.succ_mul]; omega, this]
     simp
theorem SetKids.wide [Inhabited α] {m : Nat} (hf : S3 m f) {o : Bool} {xs : List α} {i off : Nat} {us : List V} {K : V → Prop} (w : α) (hi : i < xs.length) (hs : (f (nth xs i)).setCells off us = some (f w)) (ho : off < m) (hk : K (.sl o m ((xs.set i w).map f))) :
  SetKids (.sl o m (xs.map f)) (Ap i m + off) us K :=
 ⟨_, by simp only [V.setKids, Qp, Aqc hf w hi hs ho, Option.map_some], hk⟩
theorem Anz [Inhabited α] {m : Nat} (hf : S3 m f) : ∀ {xs : List α} {i off : Nat} {us : List V} {v : V}, i < xs.length → (f (nth xs i)).setCells off us = some v → off < m → Md (xs.map f) (i * m + off) us = some (holeW f xs i v) := by
 intro xs
 induction xs with
 | nil => intro i off us v h; simp at h
 | cons x r ih =>
   intro i off us v h hs ho
   simp only [List.map_cons, Md, (hf x).1, holeW]
   cases i with
   | zero =>
     have hs' : (f x).setCells off us = some v := hs
     simp [ho, hs']
   | succ i =>
     have := ih (i := i) (off := off) (us := us) (v := v) (by simpa using h) hs ho
     rw [if_neg (by rw [Nat.succ_mul]; omega), show (i + 1) * m + off - m = i * m + off by rw [Nat.succ_mul]; omega, this]
     simp [holeW]
theorem An1 {m : Nat} (hf : S3 m f) : ∀ {xs : List α} {i off : Nat} {us : List V} {v : V} (w : α), i < xs.length → v.cells.length = m → v.setCells off us = some (f w) → off < m → Md (holeW f xs i v) (i * m + off) us = some ((xs.set i w).map f) := by
 intro xs
 induction xs with
 | nil => intro i off us v w h; simp at h
 | cons x r ih =>
   intro i off us v w h hv hs ho
   cases i with
   | zero => simp [holeW, Md, hv, ho, hs]
   | succ i =>
     have := ih (i := i) (off := off) (us := us) (v := v) w (by simpa using h) hv hs ho
     simp only [holeW, List.map_cons, List.set_cons_succ, Md, (hf x).1] at this ⊢
     rw [if_neg (by rw [Nat.succ_mul]; omega), show (i + 1) * m + off - m = i * m + off by rw [Nat.succ_mul]; omega, this]
     simp
theorem Len.holeW {xs : List α} {i : Nat} {v : V} {K : Nat → Prop} (h : K xs.length) : Len (holeW f xs i v) K := ⟨by simp only [Ax.holeW, List.length_set, List.length_map]; exact h⟩
theorem SetKids.mkholeW [Inhabited α] {m : Nat} (hf : S3 m f) {o : Bool} {xs : List α} {i off : Nat} {us : List V} {K : V → Prop} (v : V) (hi : i < xs.length) (hs : (f (nth xs i)).setCells off us = some v) (ho : off < m) (hk : K (.sl o m (holeW f xs i v))) :
  SetKids (.sl o m (xs.map f)) (Ap i m + off) us K :=
 ⟨_, by simp only [V.setKids, Qp, Anz hf hi hs ho, Option.map_some], hk⟩
theorem SetKids.fillW {m : Nat} (hf : S3 m f) {o : Bool} {xs : List α} {i off : Nat} {us : List V} {v : V} {K : V → Prop} (w : α) (hi : i < xs.length) (hv : v.cells.length = m) (hs : v.setCells off us = some (f w)) (ho : off < m) (hk : K (.sl o m ((xs.set i w).map f))) :
  SetKids (.sl o m (holeW f xs i v)) (Ap i m + off) us K :=
 ⟨_, by simp only [V.setKids, Qp, An1 hf w hi hv hs ho, Option.map_some], hk⟩
theorem SetKids.lit {T T' : V} {c : Nat} {us : List V} {K : V → Prop} (h : T.setKids c us = some T') (hk : K T') : SetKids T c us K := ⟨T', h, hk⟩
theorem MkQ.o {d n : Nat} {z : V} {K : List V → Prop} (f : α → V) (w : α) (e : z = f w) (hk : K ((List.replicate n w).map f)) : MkQ d n z K := ⟨by rw [e, ← List.map_replicate]; exact hk⟩
theorem Aqz {m : Nat} (hf : S3 m f) (ws : List α) : Q2 m (ws.map f) = true := by
 induction ws with
 | nil => rfl
 | cons w r ih => simp [Q2, (hf w).1, (hf w).2, ih]
theorem BslQ.o {d m : Nat} {us : List V} {K : List V → Prop} (f : α → V) (ws : List α) (hf : S3 m f) (e : us = ws.map f) (hk : K (ws.map f)) : BslQ d m us K := by
 subst e; exact ⟨Aqz hf ws, hk⟩
theorem BslQ.lit {d m : Nat} {us : List V} {K : List V → Prop} (e : Q2 m us = true) (hk : K us) : BslQ d m us K := ⟨e, hk⟩
theorem Al2 {m : Nat} (hf : S3 m f) (ws : List α) : Cs (Bi (ws.map f)) = true := by
 induction ws with
 | nil => rfl
 | cons w r ih =>
   have := (hf w).2
   simp only [Cs, List.map_cons, Bi, List.all_append, Bool.and_eq_true] at this ih ⊢
   exact ⟨this, ih⟩
theorem AppQ.o {m d : Nat} {us vs : List V} {K : List V → Prop} (f : α → V) (hf : S3 m f) (xs ys : List α) (ex : us = xs.map f) (ey : vs = ys.map f) (h : ask (xs.length + ys.length ≤ LIM) x = some v) (hk : x = some v → K ((xs ++ ys).map f)) : AppQ d us vs K := by
 subst ex; subst ey
 obtain ⟨h1, h2⟩ := Ow.1 h
 exact ⟨Al2 hf ys, by simpa using h1, by rw [← List.map_append]; exact hk h2⟩
theorem Ad8 (hf : ∀ x, Bd (f x).cells = false) (ws : List α) : Bd (Bi (ws.map f)) = false := by
 induction ws with
 | nil => rfl
 | cons w r ih => simp only [List.map_cons, Bi, Fs, hf w, ih]; rfl
theorem SlcQ.o {l h : Int} {xs : List α} {K : List V → Prop} (f : α → V) (hh : ask (0 ≤ l ∧ l ≤ h ∧ h ≤ (xs.length : Int)) x = some v) (hk : x = some v → K (((xs.drop l.toNat).take (h.toNat - l.toNat)).map f)) : SlcQ (xs.map f) l h K := by
 obtain ⟨⟨h1, h2, h3⟩, h4⟩ := Ow.1 hh
 exact ⟨h1, h2, by simpa using h3, by rw [← List.map_drop, ← List.map_take]; exact hk h4⟩
theorem NoOwn.o (hf : ∀ x, Bd (f x).cells = false) {ws : List α} (h : X) : NoOwn (ws.map f) X Y := ⟨.inl ⟨Ad8 hf ws, h⟩⟩
theorem NoOwn.lit {us : List V} (e : Bd (Bi us) = false) (h : X) : NoOwn us X Y := ⟨.inl ⟨e, h⟩⟩
theorem NoOwn.own {us : List V} (e : Bd (Bi us) = true) (h : Y) : NoOwn us X Y := ⟨.inr ⟨e, h⟩⟩
end
def Tu (P : Program) (f : Nat) (vs : List V) (v : V) (k : Nat) (u : V) : Prop := Tri P f vs (fun r o => r = v ∧ o[k]? = some u)
theorem Qh {P : Program} {f N : Nat} {ac : ACode} {rs : List RS} {args : List V} {v u : V} {k : Nat} (hf : Az P f N ac rs = true) (hn : args.length ≤ N)
  (h : vc P ac (Atl N rs args fun r o => r = v ∧ o[k]? = some u) (entry N 0 args)) : Tu P f args v k u := Akf hf hn h
theorem Tri.freeze {P : Program} {f : Nat} {args : List V} {R : V → List V → Prop} (h : Tri P f args fun r o => R r.fz o) : Tri P f args R := by
 intro w O vals fp h1 h2
 obtain ⟨h3, h4⟩ := h w O vals fp h1 h2
 refine ⟨h3, h4.mono ?_⟩
 rintro e w' ⟨res, outs, rv, O', fpr, fpo, hR, he, r1, ro, hnd, hm⟩
 have hd := List.nodup_append.1 hnd
 have hnew : ∀ b, b ∈ fpr → b ∈ fp ∨ w.heap.size ≤ b := fun b hb => hm.new b (by simp [hb])
 refine ⟨res.fz, outs, rv, fun b => O' b ∧ b ∉ fpr, [], fpo, hR, he, ?_, ?_, by simpa using hd.2.1, ⟨hm.os, hm.tape, hm.output, hm.size, fun b hb hS => ?_, fun b hb => hm.new b (by simpa using Or.inr (by simpa using hb))⟩⟩
 ·have := r1.fz (O2 := fun b => O' b ∧ b ∉ fpr) (fun b hb hh => hh.2 hb) (fun b hb _ hh => hb hh.1)
  simpa [fzL] using this
 ·exact ro.frame (fun b hb => ⟨rfl, (ro.fpO b hb).1, fun hh => hd.2.2 b hh b hb rfl⟩) (fun b hb _ => ⟨rfl, fun hh => hb hh.1⟩)
 have := hm.same b hb hS
 refine ⟨this.1, ⟨fun hh => this.2.1 hh.1, fun hh => ⟨this.2.2 hh, fun hf => ?_⟩⟩⟩
 rcases hnew b hf with h5 | h5
 ·exact hS h5
 omega
theorem V4 {P : Program} {f N : Nat} {ac : ACode} {rs : List RS} {args : List V} {v : V} (hf : Az P f N ac rs = true) (hn : args.length ≤ N)
  (h : vc P ac (Atl N rs args fun r _ => r.fz = v) (entry N 0 args)) : Ret P f args v := Tri.freeze (R := fun r _ => r = v) (Akf hf hn h)
theorem Ar7 {P : Program} {f N : Nat} {ac : ACode} {rs : List RS} {args : List V} {v u : V} {k : Nat} (hf : Az P f N ac rs = true) (hn : args.length ≤ N)
  (h : vc P ac (Atl N rs args fun r o => r.fz = v ∧ o[k]? = some u) (entry N 0 args)) : Tu P f args v k u := Tri.freeze (R := fun r o => r = v ∧ o[k]? = some u) (Akf hf hn h)
theorem Ret.frz {P : Program} {f : Nat} {vs : List V} {v v' : V} (h : Ret P f vs v) (e : v.fz = v') : Ret P f vs v' :=
 Tri.freeze (R := fun r _ => r = v') (Tri.mono h fun r _ hr => by rw [show r = v from hr]; exact e)
class NoFz {α : Type} (f : α → V) : Prop where
 eq : ∀ x, (f x).noFz = true
instance {k : IntKind} : NoFz (V.int k) := ⟨fun _ => rfl⟩
instance : NoFz Ag := ⟨fun _ => rfl⟩
instance : NoFz V.bool := ⟨fun _ => rfl⟩
instance : NoFz V.str := ⟨fun _ => rfl⟩
theorem Bp {α : Type} {f : α → V} [NoFz f] (xs : List α) : B2 (xs.map f) = true := by
 induction xs with
 | nil => rfl
 | cons x r ih => simp [B2, NoFz.eq, ih]
instance {α : Type} (m : Nat) (f : α → V) [NoFz f] : NoFz (slr true m f) := ⟨fun x => by simp [V.noFz, Bp]⟩
instance {α : Type} (f : α → V) [NoFz f] : NoFz (rP true f) := ⟨fun x => by simp [V.noFz, NoFz.eq]⟩
instance {α : Type} (f : α → V) [NoFz f] : NoFz (rO true f) := ⟨fun x => by cases x <;> simp [V.noFz, NoFz.eq]⟩
instance {α : Type} (f : α → V) [NoFz f] : NoFz (rA2 f) := ⟨fun x => by simp [V.noFz, B2, NoFz.eq]⟩
instance {α : Type} (f : α → V) [NoFz f] : NoFz (rA3 f) := ⟨fun x => by simp [V.noFz, B2, NoFz.eq]⟩
section
variable {P : Program} {K : St → Prop} {σ : St} {β ρ : Type} {v : ρ} {oo : Option β} {k : β → Option ρ}
theorem CallQ.o (rep : β → V) {vs vs' : List V} {f d : Nat} (e : vs = vs') (h : oo.bind k = some v) (hr : ∀ r, oo = some r → Ret P f vs' (rep r)) (hk : ∀ r, k r = some v → Bs (A6 d (.val (rep r)) σ) K) : CallQ P f d vs [] [] K σ := by
 subst e
 obtain ⟨r, h1, h2⟩ := Option.bind_eq_some_iff.1 h
 have h3 := hk r h2
 rw [A4] at h3
 refine ⟨rfl, Tri.mono (hr r h1) ?_⟩
 rintro r o rfl
 exact ⟨rfl, h3⟩
theorem CallQ.rd (rep : β → V) {vs vs' : List V} {rs : List Nat} {f d : Nat} (e : vs = vs') (hn : ∀ r, (rep r).noFz = true) (h : oo.bind k = some v) (hr : ∀ r, oo = some r → Ret P f vs' (rep r)) (hk : ∀ r, k r = some v → Bs (A6 d (.val (rep r)) σ) K) : CallQ P f d vs [] rs K σ := by
 subst e
 obtain ⟨r, h1, h2⟩ := Option.bind_eq_some_iff.1 h
 have h3 := hk r h2
 rw [A4] at h3
 refine ⟨rfl, Tri.mono (hr r h1) ?_⟩
 rintro r' o rfl
 exact ⟨by simp [G9, hn r], h3⟩
theorem CloQ.o (rep : β → V) {vs vs' cs : List V} {rs : List Nat} {f d : Nat} (e : vs ++ fzL cs = vs') (hn : ∀ r, G9 rs (rep r) = true) (h : oo.bind k = some v) (hr : ∀ r, oo = some r → Ret P f vs' (rep r)) (hk : ∀ r, k r = some v → Bs (A6 d (.val (rep r)) σ) K) : CloQ P f d cs vs rs K σ := by
 subst e
 obtain ⟨r, h1, h2⟩ := Option.bind_eq_some_iff.1 h
 have h3 := hk r h2
 rw [A4] at h3
 refine ⟨Tri.mono (hr r h1) ?_⟩
 rintro r' o rfl
 exact ⟨hn r, h3⟩
theorem CallP.o (rep : β → V) {vs vs' : List V} {f d : Nat} {K : V → Prop} (e : vs = vs') (h : oo.bind k = some v) (hr : ∀ r, oo = some r → Ret P f vs' (rep r)) (hk : ∀ r, k r = some v → K (rep r)) : CallP P f d vs [] K := by
 subst e
 obtain ⟨r, h1, h2⟩ := Option.bind_eq_some_iff.1 h
 exact ⟨_, Tri.mono (hr r h1) (by rintro r' _ rfl; exact ⟨rfl, rfl⟩), hk r h2⟩
theorem CallP.rd (rep : β → V) {vs vs' : List V} {rs : List Nat} {f d : Nat} {K : V → Prop} (e : vs = vs') (hn : ∀ r, (rep r).noFz = true) (h : oo.bind k = some v) (hr : ∀ r, oo = some r → Ret P f vs' (rep r)) (hk : ∀ r, k r = some v → K (rep r)) : CallP P f d vs rs K := by
 subst e
 obtain ⟨r, h1, h2⟩ := Option.bind_eq_some_iff.1 h
 exact ⟨_, Tri.mono (hr r h1) (by rintro r' _ rfl; exact ⟨rfl, by simp [G9, hn r]⟩), hk r h2⟩
theorem FrzQ.z {T : V} {K : V → Prop} (h : K T.fz) : FrzQ T 0 K := ⟨_, A9 T, h⟩
theorem FrzQ.d {T : V} {n : Nat} {K : V → Prop} (T' : V) (e : T.fzAt n = T') (h : K T') : FrzQ T n K := ⟨_, e, h⟩
theorem LendP.io {γ : Type} {o : Option (β × γ)} {k : β × γ → Option ρ} (rep : β → V) (rep2 : γ → V) {vs vs' : List V} {rs : List Nat} {f d j : Nat} {T : V} {K : V → V → Prop} (e : vs = vs')
  (hn : ∀ b, G9 rs (rep b) = true) (hn2 : ∀ b, G9 rs (rep2 b) = true ∧ (rep2 b).node = true) (hu : ∀ u, upd [] T u = some u) (h : o.bind k = some v) (hr : ∀ x, o = some x → Tu P f vs' (rep x.1) j (rep2 x.2))
  (hk : ∀ b c, k (b, c) = some v → K (rep b) (rep2 c)) : LendP P f d vs rs j [] T K := by
 subst e
 obtain ⟨⟨b, c⟩, h1, h2⟩ := Option.bind_eq_some_iff.1 h
 exact ⟨_, _, _, hr _ h1, ⟨hn b, (hn2 c).1, (hn2 c).2, hu _⟩, hk b c h2⟩
theorem CallQ.io {γ : Type} {o : Option (β × γ)} {k : β × γ → Option ρ} (rep : β → V) (rep2 : γ → V) {vs vs' : List V} {rs : List Nat} {f d j r : Nat} {p : List Nat} {T : V} (e : vs = vs') (hroots : rs.contains r = false)
  (hn : ∀ b, G9 rs (rep b) = true) (hn2 : ∀ b, G9 rs (rep2 b) = true ∧ (rep2 b).node = true) (hT : look σ r = .val T) (h : o.bind k = some v) (hr : ∀ x, o = some x → Tu P f vs' (rep x.1) j (rep2 x.2))
  (hk : ∀ b c, k (b, c) = some v → Tx p T (rep2 c) fun T' => Bs (A6 d (.val (rep b)) (Nn r T' (p.length + 1) σ)) K) : CallQ P f d vs [(j, r, p)] rs K σ := by
 subst e
 obtain ⟨⟨b, c⟩, h1, h2⟩ := Option.bind_eq_some_iff.1 h
 obtain ⟨T', h3, h4⟩ := Ke (hk b c h2)
 rw [A4] at h4
 refine ⟨by simp only [J9, hroots]; rfl, Tri.mono (hr _ h1) ?_⟩
 rintro res outs ⟨rfl, ho⟩
 refine ⟨hn b, ?_⟩
 rw [ho, hT]
 exact ⟨(hn2 c).1, by rw [h3]; show K (A6 d _ (Nn r T' (p.length + Ah2 (rep2 c)) σ)); rw [Aa9 (hn2 c).2]; exact h4⟩
theorem CallQ.give (rep : β → V) {vs vs' : List V} {rs : List Nat} {f d j r : Nat} {p : List Nat} {T : V} (e : vs = vs') (hroots : rs.contains r = false)
  (hn : ∀ b, G9 rs (rep b) = true) (hT : look σ r = .val T) (h : oo.bind k = some v) (hr : ∀ x, oo = some x → Tu P f vs' (rep x) j .dead)
  (hk : ∀ b, k b = some v → Tx p T .dead fun T' => Bs (A6 d (.val (rep b)) (Nn r T' p.length σ)) K) : CallQ P f d vs [(j, r, p)] rs K σ := by
 subst e
 obtain ⟨b, h1, h2⟩ := Option.bind_eq_some_iff.1 h
 obtain ⟨T', h3, h4⟩ := Ke (hk b h2)
 rw [A4] at h4
 refine ⟨by simp only [J9, hroots]; rfl, Tri.mono (hr _ h1) ?_⟩
 rintro res outs ⟨rfl, ho⟩
 refine ⟨hn b, ?_⟩
 rw [ho, hT]
 exact ⟨by cases rs <;> rfl, by rw [h3]; exact h4⟩
theorem LendQ.io {γ : Type} {o : Option (β × γ)} {k : β × γ → Option ρ} (rep : β → V) (rep2 : γ → V) (cs : γ → List V) (fld : γ → V) {bs : List A} {vs vs' : List V} {rs : List Nat} {f d j r : Nat} {p : List Nat} {T : V}
  (e : .agg (vs.take bs.length) :: vs.drop bs.length = vs') (hc : ∀ c, rep2 c = .agg (cs c)) (hf : ∀ c, (cs c)[j]? = some (fld c)) (hroots : rs.contains r = false)
  (hn : ∀ b, G9 rs (rep b) = true) (hn2 : ∀ b, G9 rs (fld b) = true ∧ (fld b).node = true) (hT : look σ r = .val T) (h : o.bind k = some v) (hr : ∀ x, o = some x → Tu P f vs' (rep x.1) 0 (rep2 x.2))
  (hk : ∀ b c, k (b, c) = some v → Tx p T (fld c) fun T' => Bs (A6 d (.val (rep b)) (Nn r T' (p.length + 1) σ)) K) : LendQ P f d bs vs [(j, r, p)] rs K σ := by
 subst e
 obtain ⟨⟨b, c⟩, h1, h2⟩ := Option.bind_eq_some_iff.1 h
 obtain ⟨T', h3, h4⟩ := Ke (hk b c h2)
 rw [A4] at h4
 refine ⟨by simp only [J9, hroots]; rfl, Tri.mono (hr _ h1) ?_⟩
 rintro res outs ⟨rfl, ho⟩
 cases outs with
 | nil => cases ho
 | cons x o =>
   simp only [List.getElem?_cons_zero, Option.some.injEq] at ho
   subst ho
   have hj : (cs c ++ o)[j]? = some (fld c) := by
    have hlt := (List.getElem?_eq_some_iff.1 (hf c)).1
    rw [List.getElem?_append_left hlt]; exact hf c
   show Rz _ _ (rep2 c :: o)
   rw [hc c]
   refine ⟨hn b, ?_⟩
   rw [hj, hT]
   exact ⟨(hn2 c).1, by rw [h3]; show K (A6 d _ (Nn r T' (p.length + Ah2 (fld c)) σ)); rw [Aa9 (hn2 c).2]; exact h4⟩
end
abbrev Tgt := Ex × List Nat × St
def atQ (t : Tgt) : Ex → St → Prop := fun ex σ => ex = t.1 ∧ restrict t.2.1 σ = t.2.2
def Cc {σ' τ : Type} (ks : List Nat) (st : σ' → St) (tg : τ → Tgt) : σ' ⊕ τ → Ex → St → Prop
 | .inl s => atQ (.normal, ks, st s)
 | .inr t => atQ (tg t)
def Ex.isNormal : Ex → Bool
 | .normal => true
 | .exit _ => false
 | .ret => false
theorem LoopQ.o {σ' τ ρ : Type} {body : σ' → Option (σ' ⊕ τ)} {k : τ → Option ρ} {v : ρ} {s0 : σ'} {P : Program} {c : ACode} {Q : Ex → St → Prop} {σ : St} (ks : List Nat) (st : σ' → St) (tg : τ → Tgt)
  (h : (Am body s0).bind k = some v) (hb : ∀ s o, body s = some o → vc P c (Cc ks st tg o) (st s)) (h0 : restrict ks σ = st s0) (hn : ∀ t, (tg t).1.isNormal = false) (ha : ∀ t, k t = some v → Q (tg t).1 (tg t).2.2) :
  LoopQ P c Q σ := by
 obtain ⟨t, h1, h2⟩ := Option.bind_eq_some_iff.1 h
 obtain ⟨n, hit⟩ := Lb.1 h1
 refine ⟨ks, n, ?_⟩
 rw [h0]
 clear h0 h h1
 induction n generalizing s0 with
 | zero => cases hit
 | succ n ih =>
   simp only [Ade] at hit
   split at hit
   ·cases hit
   ·rename_i s' e
    refine On ?_ (U4 (hb _ _ e))
    rintro ex τ' ⟨h3, h4⟩
    subst h3
    show W6 (awp P c) ks (less Q) n (restrict ks τ')
    rw [h4]
    exact ih hit
   ·rename_i t' e
    cases hit
    refine On ?_ (U4 (hb _ _ e))
    rintro ex τ' ⟨h3, h4⟩
    have hne := hn t
    rw [← h3] at hne
    have hq := ha t h2
    rw [← h4, ← h3] at hq
    cases ex with
    | normal => cases hne
    | exit i => exact .inr ⟨_, hq⟩
    | ret => exact .inr ⟨_, hq⟩
theorem CutQ.o {τ ρ : Type} {e : Option τ} {k : τ → Option ρ} {v : ρ} {P : Program} {c : ACode} {Q : Ex → St → Prop} {σ : St} (tg : τ → Tgt)
  (h : e.bind k = some v) (hb : ∀ t, e = some t → vc P c (atQ (tg t)) σ) (ha : ∀ t, k t = some v → Q (tg t).1 (tg t).2.2) : CutQ P c Q σ := by
 obtain ⟨t, h1, h2⟩ := Option.bind_eq_some_iff.1 h
 refine ⟨?_⟩
 show awp P c (less Q) σ
 refine On ?_ (U4 (hb t h1))
 rintro ex τ' ⟨h3, h4⟩
 have hq := ha t h2
 rw [← h4, ← h3] at hq
 exact .inr ⟨_, hq⟩
end Go.Proofs.Ytiakjbigaaanhaa.Ax
