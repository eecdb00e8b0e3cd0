/-
 Part of the proof; see the last text of the claim.
-/
import Derived.Test.YtjinhobffbppbaaAx3
namespace Go.Proofs.Ytjinhobffbppbaa.Ax
open Go
structure Br (b : Bool) (X Y : Prop) : Prop where
 t : b = true → X
 f : b = false → Y
structure Ask (p X : Prop) : Prop where
 p : p
 x : X
structure Elem (xs : List V) (j : Nat) (K : V → Prop) : Prop where
 h : K (xs.getD j .dead)
structure Cells (xs : List V) (c n : Nat) (K : List V → Prop) : Prop where
 h : ∃ us, c + n ≤ xs.length ∧ (xs.drop c).take n = us ∧ K us
structure Kid (T : V) (c : Nat) (K : V → Prop) : Prop where
 h : ∃ k, T.stepOk = true ∧ T.kids[c]? = some k ∧ K k
structure SetKids (x : V) (c : Nat) (us : List V) (K : V → Prop) : Prop where
 h : ∃ x', x.setKids c us = some x' ∧ K x'
structure MkQ (d n : Nat) (z : V) (K : List V → Prop) : Prop where
 h : K (List.replicate n z)
structure BslQ (d m : Nat) (us : List V) (K : List V → Prop) : Prop where
 h : L3 m us = true ∧ K us
structure AppQ (d : Nat) (xs ys : List V) (K : List V → Prop) : Prop where
 h : Ck (Bg ys) = true ∧ xs.length + ys.length ≤ LIM ∧ K (xs ++ ys)
structure NoOwn (ys : List V) (X Y : Prop) : Prop where
 h : (A7 (Bg ys) = false ∧ X) ∨ (A7 (Bg ys) = true ∧ Y)
structure SlcQ (xs : List V) (l h : Int) (K : List V → Prop) : Prop where
 h : 0 ≤ l ∧ l ≤ h ∧ h ≤ (xs.length : Int) ∧ K ((xs.drop l.toNat).take (h.toNat - l.toNat))
structure Idx (j : Int) (lo n : Nat) (K : Int → Prop) : Prop where
 h : lo ≤ j → j < n → K j
def A5 : Nat → Nat → Nat
 | x, 0 => x * 0
 | x, 1 => x
 | x, m + 2 => x * (m + 2)
theorem Aa (x : Nat) : A5 x 1 = x := rfl
theorem K9 (x m : Nat) : A5 x m = x * m := by
 unfold A5; split <;> simp
def Ao2 (a b : Int) : Int := IntKind.i64.wrap (a * 2 ^ (min b.toNat IntKind.i64.bits))
def An2 (a b : Int) : Int := a.fdiv (2 ^ (min b.toNat IntKind.i64.bits))
def Ao4 (a b : Int) : Int := IntKind.i64.wrap (BitVec.ofInt IntKind.i64.bits a &&& BitVec.ofInt IntKind.i64.bits b).toNat
def orI (a b : Int) : Int := IntKind.i64.wrap (BitVec.ofInt IntKind.i64.bits a ||| BitVec.ofInt IntKind.i64.bits b).toNat
def Aoj (a b : Int) : Int := IntKind.i64.wrap (BitVec.ofInt IntKind.i64.bits a ^^^ BitVec.ofInt IntKind.i64.bits b).toNat
def Al5 (a b : Int) : Int := IntKind.i64.wrap (BitVec.ofInt IntKind.i64.bits a &&& ~~~BitVec.ofInt IntKind.i64.bits b).toNat
theorem Br.not {b : Bool} {X Y : Prop} (h : Br b Y X) : Br (!b) X Y := by
 cases b
 ·exact ⟨fun _ => h.f rfl, fun e => Bool.noConfusion e⟩
 exact ⟨fun e => Bool.noConfusion e, fun _ => h.t rfl⟩
theorem Br.beq {a b : Int} {X Y : Prop} (h1 : a = b → X) (h2 : a ≠ b → Y) : Br (a == b) X Y := ⟨fun h => h1 (by simpa using h), fun h => h2 (by simpa using h)⟩
structure Len (xs : List V) (K : Nat → Prop) : Prop where
 h : K xs.length
theorem Len.map {α : Type} {f : α → V} {xs : List α} {K : Nat → Prop} (h : K xs.length) : Len (xs.map f) K := ⟨by rw [List.length_map]; exact h⟩
theorem Len.app {xs ys : List V} {K : Nat → Prop} (h : K (xs.length + ys.length)) : Len (xs ++ ys) K := ⟨by rw [List.length_append]; exact h⟩
theorem Br.yes {X Y : Prop} (h : X) : Br true X Y := ⟨fun _ => h, fun e => Bool.noConfusion e⟩
theorem Br.no {X Y : Prop} (h : Y) : Br false X Y := ⟨fun e => Bool.noConfusion e, fun _ => h⟩
mutual
def Lr : A → (A → Prop) → Prop
 | .top, K => K .top
 | .val v, K => K (.val v)
 | .ref r p, K => K (.ref r p)
 | .addr r p c, K => K (.addr r p c)
 | .fad cs, K => K (.fad cs)
 | .agg as, K => Xt as fun bs => K (.agg bs)
 | .clo f as, K => Xt as fun bs => K (.clo f bs)
def Xt : List A → (List A → Prop) → Prop
 | [], K => K []
 | a :: r, K => Lr a fun b => Xt r fun s => K (b :: s)
end
mutual
theorem It : (a : A) → (K : A → Prop) → Lr a K = K a
 | .top, _ => rfl
 | .val _, _ => rfl
 | .ref _ _, _ => rfl
 | .addr _ _ _, _ => rfl
 | .fad _, _ => rfl
 | .agg as, K => by simp only [Lr]; rw [T7 as]
 | .clo f as, K => by simp only [Lr]; rw [T7 as]
theorem T7 : (as : List A) → (K : List A → Prop) → Xt as K = K as
 | [], _ => rfl
 | a :: r, K => by simp only [Xt]; rw [It a, T7 r]
end
def Bn : St → (St → Prop) → Prop
 | [], K => K []
 | (k, a) :: r, K => Lr a fun b => Bn r fun s => K ((k, b) :: s)
theorem A1 : ∀ (σ : St) (K : St → Prop), Bn σ K = K σ := by
 intro σ
 induction σ with
 | nil => intro K; rfl
 | cons e r ih => intro K; obtain ⟨k, a⟩ := e; simp only [Bn]; rw [It, ih]
def Adm (o : Option St) (K : St → Prop) : Prop := match o with
 | some σ => Bn σ K
 | none => False
theorem Vi {o : Option St} {K : St → Prop} (h : Adm o K) : ∃ σ, o = some σ ∧ K σ := by
 unfold Adm at h
 split at h
 ·rw [A1] at h; exact ⟨_, rfl, h⟩
 exact h.elim
def Hg (s : Nat) (b : Bool) : St → St
 | [] => []
 | (k, a) :: r => match Nat.beq k s with
   | true => (k, .val (.bool b)) :: r
   | false => (k, a) :: Hg s b r
theorem Kc {s : Nat} {b : Bool} : ∀ {σ : St}, look σ s = .val (.bool b) → Hg s b σ = σ := by
 intro σ
 induction σ with
 | nil => intro _; rfl
 | cons e r ih =>
   obtain ⟨k, a⟩ := e
   intro h
   simp only [look] at h
   simp only [Hg]
   by_cases hk : k = s
   ·rw [if_pos hk] at h
    subst hk
    rw [show Nat.beq k k = true by simp, h]
   ·rw [if_neg hk] at h
    rw [show Nat.beq k s = false by
     cases hb : Nat.beq k s with
     | false => rfl
     | true => exact absurd (Nat.eq_of_beq_eq_true hb) hk]
    simp only [ih h]
def Aot (x : X) (b : Bool) (σ : St) : St := match x with
 | .t s => Hg s b σ
 | .c _ => σ
def Afz : List Nat → V → (V → Prop) → Prop
 | [], T, K => K T
 | c :: p, T, K => Kid T c fun k => Afz p k K
theorem Rb : ∀ {p : List Nat} {T : V} {K : V → Prop}, Afz p T K → ∃ u, sub p T = some u ∧ K u := by
 intro p
 induction p with
 | nil => intro T K h; exact ⟨T, rfl, h⟩
 | cons c p ih =>
   intro T K h
   obtain ⟨k, h1, h2, h3⟩ := h.h
   obtain ⟨u, h4, h5⟩ := ih h3
   exact ⟨u, by simp only [sub, h1, h2, if_true, h4], h5⟩
def Vy (T : A) (p : List Nat) (K : V → Prop) : Prop := match T with
 | .val V => Afz p V K
 | _ => False
def Nr : List Nat → V → V → (V → Prop) → Prop
 | [], _, u, K => K u
 | c :: p, T, u, K => Kid T c fun k => Nr p k u fun k' => SetKids T c [k'] K
theorem Hi : ∀ {p : List Nat} {T u : V} {K : V → Prop}, Nr p T u K → ∃ T', upd p T u = some T' ∧ K T' := by
 intro p
 induction p with
 | nil => intro T u K h; exact ⟨u, rfl, h⟩
 | cons c p ih =>
   intro T u K h
   obtain ⟨k, h1, h2, h3⟩ := h.h
   obtain ⟨k', h4, h5⟩ := ih h3
   obtain ⟨T', h6, h7⟩ := h5.h
   exact ⟨T', by simp only [upd, h2, h4, h6], h7⟩
theorem Io {σ : St} {r : Nat} {p : List Nat} {K : V → Prop} (h : Vy (look σ r) p K) : ∃ T u, look σ r = .val T ∧ sub p T = some u ∧ Bo σ r p = some u ∧ K u := by
 unfold Vy at h
 split at h
 ·rename_i T hT
  obtain ⟨u, h1, h2⟩ := Rb h
  exact ⟨T, u, hT, h1, by simp [Bo, hT, h1], h2⟩
 exact h.elim
def Ug (a b : A) (K : Int → Int → Prop) (E : Prop) : Prop := match a, b with
 | .val (.int .i64 x), .val (.int .i64 y) => K x y
 | _, _ => E
abbrev InI (n : Int) : Prop := -9223372036854775808 ≤ n ∧ n ≤ 9223372036854775807
theorem Ajh {a b : A} {K : Int → Int → Prop} {E : Prop} (h : Ug a b K E) : (∃ x y, a = .val (.int .i64 x) ∧ b = .val (.int .i64 y) ∧ K x y) ∨ E := by
 unfold Ug at h
 split at h
 ·exact .inl ⟨_, _, rfl, rfl, h⟩
 exact .inr h
def Fg (o : Option (Nat × A)) (K : Nat → A → Prop) : Prop := match o with
 | some (d, a) => Lr a fun b => K d b
 | none => False
theorem F8 {o : Option (Nat × A)} {K : Nat → A → Prop} (h : Fg o K) : ∃ d a, o = some (d, a) ∧ K d a := by
 unfold Fg at h
 split at h
 ·rw [It] at h; exact ⟨_, _, rfl, h⟩
 exact h.elim
def Apb (d : Nat) (xs : List V) (K : Nat → A → Prop) : Prop := Len xs fun n => K d (.val (.int .i64 n))
def Am5 (d m m' : Nat) (xs : List V) (j : Int) (own : Option (Nat × List Nat)) (K : Nat → A → Prop) : Prop := match Nat.beq m' m with
 | true => Len xs fun n => Ask (0 ≤ j ∧ j < n) (match own with
   | none => Elem xs j.toNat fun u => K d (.fad u.cells)
   | some (r, p) => K d (.addr r p (A5 j.toNat m)))
 | false => False
def Vf (o : AOp) (σ : St) (K : Nat → A → Prop) : Prop := match o with
 | .bin d op x y => match op with
   | .add => Ug (Aj σ x) (Aj σ y) (fun a b => Ask (InI (a + b)) (K d (.val (.int .i64 (a + b))))) (Fg (qR o σ) K)
   | .sub => Ug (Aj σ x) (Aj σ y) (fun a b => Ask (InI (a - b)) (K d (.val (.int .i64 (a - b))))) (Fg (qR o σ) K)
   | .mul => Ug (Aj σ x) (Aj σ y) (fun a b => Ask (InI (a * b)) (K d (.val (.int .i64 (a * b))))) (Fg (qR o σ) K)
   | .quo => Ug (Aj σ x) (Aj σ y) (fun a b => Ask (b ≠ 0 ∧ InI (a.tdiv b)) (K d (.val (.int .i64 (a.tdiv b))))) (Fg (qR o σ) K)
   | .rem => Ug (Aj σ x) (Aj σ y) (fun a b => Ask (b ≠ 0) (K d (.val (.int .i64 (a.tmod b))))) (Fg (qR o σ) K)
   | .shl => Ug (Aj σ x) (Aj σ y) (fun a b => Ask (0 ≤ b) (K d (.val (.int .i64 (Ao2 a b))))) (Fg (qR o σ) K)
   | .shr => Ug (Aj σ x) (Aj σ y) (fun a b => Ask (0 ≤ b) (K d (.val (.int .i64 (An2 a b))))) (Fg (qR o σ) K)
   | .and => Ug (Aj σ x) (Aj σ y) (fun a b => K d (.val (.int .i64 (Ao4 a b)))) (Fg (qR o σ) K)
   | .or => Ug (Aj σ x) (Aj σ y) (fun a b => K d (.val (.int .i64 (orI a b)))) (Fg (qR o σ) K)
   | .xor => Ug (Aj σ x) (Aj σ y) (fun a b => K d (.val (.int .i64 (Aoj a b)))) (Fg (qR o σ) K)
   | .andNot => Ug (Aj σ x) (Aj σ y) (fun a b => K d (.val (.int .i64 (Al5 a b)))) (Fg (qR o σ) K)
   | _ => Fg (qR o σ) K
 | .pick d c x y => match Aj σ c with
   | .val (.bool b) => Br b (Fg ((nt (Aj σ x)).map (d, ·)) K) (Fg ((nt (Aj σ y)).map (d, ·)) K)
   | _ => False
 | .iad d m x i => match Aj σ x, Aj σ i with
   | .val (.sl _ m' xs), .val (.int _ j) => Am5 d m m' xs j none K
   | .ref r p, .val (.int _ j) => Vy (look σ r) p fun u => match u with
     | .sl o m' xs => match o with
       | true => Am5 d m m' xs j (some (r, p)) K
       | false => False
     | _ => False
   | _, _ => False
 | .aad d m n x i => match Eb σ (Aj σ x), Aj σ i with
   | some l, .val (.int _ j) => Ask (0 ≤ j ∧ j < n) (Idx j 0 n fun j => Lr (T0 (A5 j.toNat m) l) fun b => K d b)
   | _, _ => False
 | .ld d n ag x => match Eb σ (Aj σ x) with
   | some (.own r p c) => Vy (look σ r) p fun u => Cells u.kids c n fun ks => Lr (mkA ag (Q2 r p c ks)) fun b => K d b
   | _ => Fg (qR o σ) K
 | .mk d m z x => match Aj σ x with
   | .val (.int _ n) => Ask (0 ≤ n ∧ n ≤ (LIM : Int)) (MkQ d n.toNat z.up fun l => K d (.val (.sl true m l)))
   | _ => False
 | .mkc d m _ x => match Aj σ x with
   | .val (.int _ n) => Ask (0 ≤ n ∧ n ≤ (LIM : Int)) (K d (.val (.sl true m [])))
   | _ => False
 | .bsl d m ps => match Gj (ps.map (Aj σ)) with
   | some Us => BslQ d m (upL Us) fun l => K d (.val (.sl true m l))
   | none => False
 | .slc d m x lo hi => match Aj σ x with
   | .val (.sl o m' xs) => (match o with
     | true => False
     | false => (match Nat.beq m' m with
       | true => (match Sq 0 (lo.map (Aj σ)) with
         | some l => (match hi with
           | none => Len xs fun n => SlcQ xs l n fun ys => K d (.val (.sl false m ys))
           | some y => (match Af1 (Aj σ y) with
             | some h => SlcQ xs l h fun ys => K d (.val (.sl false m ys))
             | none => False))
         | none => False)
       | false => False))
   | _ => False
 | .len d x => match Aj σ x with
   | .val (.sl _ _ xs) => Apb d xs K
   | .ref r p => Vy (look σ r) p fun u => match u with
     | .sl _ _ xs => Apb d xs K
     | _ => False
   | _ => Fg (qR o σ) K
 | .sidx d x i => (match Aj σ x, Aj σ i with
   | .val (.str s), .val (.int _ j) => Ask (0 ≤ j ∧ j < (s.size : Int)) (K d (.val (.int .u8 (Vt s j))))
   | _, _ => False)
 | o => Fg (qR o σ) K
theorem Abl {d m m' : Nat} {xs : List V} {j : Int} {own : Option (Nat × List Nat)} {K : Nat → A → Prop} (h : Am5 d m m' xs j own K) : m' = m ∧ 0 ≤ j ∧ j < xs.length ∧ (match own with
  | none => K d (.fad (xs.getD j.toNat .dead).cells)
  | some (r, p) => K d (.addr r p (j.toNat * m))) := by
 unfold Am5 at h
 split at h
 ·rename_i hm
  have h1 := h.h
  refine ⟨Nat.eq_of_beq_eq_true hm, h1.p.1, h1.p.2, ?_⟩
  cases own with
  | none => exact h1.x.h
  | some e => have := h1.x; simpa [K9] using this
 exact h.elim
theorem K0 {o : AOp} {σ : St} {K : Nat → A → Prop} (h : Vf o σ K) : ∃ d a, qR o σ = some (d, a) ∧ K d a := by
 unfold Vf at h
 split at h
 ·rename_i d op x y
  split at h
  case h_12 => exact F8 h
  all_goals
   rcases Ajh h with ⟨a, b, ha, hb, hk⟩ | h
   case inr => exact F8 h
  ·exact ⟨_, _, by simp [qR, ha, hb, D0, V.isBool, Ky, Lc hk.p.1 hk.p.2], hk.x⟩
  ·exact ⟨_, _, by simp [qR, ha, hb, D0, V.isBool, Ky, Lc hk.p.1 hk.p.2], hk.x⟩
  ·exact ⟨_, _, by simp [qR, ha, hb, D0, V.isBool, Ky, Lc hk.p.1 hk.p.2], hk.x⟩
  ·exact ⟨_, _, by simp [qR, ha, hb, D0, V.isBool, Ky, hk.p.1, Lc hk.p.2.1 hk.p.2.2], hk.x⟩
  ·exact ⟨_, _, by simp [qR, ha, hb, D0, V.isBool, Ky, hk.p], hk.x⟩
  ·exact ⟨d, .val (.int .i64 (Ao2 a b)), by simp [qR, ha, hb, D0, V.isBool, Ky, Int.not_lt.2 hk.p, Ao2], hk.x⟩
  ·exact ⟨d, .val (.int .i64 (An2 a b)), by simp [qR, ha, hb, D0, V.isBool, Ky, Int.not_lt.2 hk.p, An2], hk.x⟩
  ·exact ⟨d, .val (.int .i64 (Ao4 a b)), by simp [qR, ha, hb, D0, V.isBool, Ky, Ao4], hk⟩
  ·exact ⟨d, .val (.int .i64 (orI a b)), by simp [qR, ha, hb, D0, V.isBool, Ky, orI], hk⟩
  ·exact ⟨d, .val (.int .i64 (Aoj a b)), by simp [qR, ha, hb, D0, V.isBool, Ky, Aoj], hk⟩
  exact ⟨d, .val (.int .i64 (Al5 a b)), by simp [qR, ha, hb, D0, V.isBool, Ky, Al5], hk⟩
 ·rename_i d c x y
  split at h
  ·rename_i b hb
   cases b
   ·obtain ⟨d', a, h1, h2⟩ := F8 (h.f rfl)
    exact ⟨d', a, by simp only [qR, hb]; simpa using h1, h2⟩
   obtain ⟨d', a, h1, h2⟩ := F8 (h.t rfl)
   exact ⟨d', a, by simp only [qR, hb]; simpa using h1, h2⟩
  exact h.elim
 ·rename_i d m x i
  split at h
  ·rename_i hx hi
   obtain ⟨h1, h2, h3, h4⟩ := Abl h
   subst h1
   exact ⟨_, _, by simp only [qR, hx, hi, h2, h3, and_self, if_true], h4⟩
  ·rename_i hx hi
   obtain ⟨T, u, hT, hs, hn, hk⟩ := Io h
   split at hk
   case h_2 => exact hk.elim
   split at hk
   case h_2 => exact hk.elim
   obtain ⟨h1, h2, h3, h4⟩ := Abl hk
   subst h1
   exact ⟨_, _, by simp only [qR, hx, hi, hn, h2, h3, and_self, if_true], h4⟩
  exact h.elim
 ·rename_i d m n x i
  split at h
  ·rename_i hl hi
   have h2 := h.x.h h.p.1 h.p.2
   rw [It, K9] at h2
   exact ⟨_, _, by simp only [qR, hl, hi, h.p.1, h.p.2, and_self, if_true], h2⟩
  exact h.elim
 ·rename_i d n ag x
  split at h
  ·rename_i r p c hl
   obtain ⟨T, u, hT, hs, hn, hk⟩ := Io h
   obtain ⟨ks, h1, h2, h3⟩ := hk.h
   rw [It] at h3
   subst h2
   exact ⟨_, _, by simp [qR, hl, Q1, hn, h1], h3⟩
  exact F8 h
 ·rename_i d m z x
  split at h
  ·rename_i hx
   exact ⟨_, _, by simp [qR, hx, h.p.1, h.p.2], h.x.h⟩
  exact h.elim
 ·rename_i d m z x
  split at h
  ·rename_i hx
   exact ⟨_, _, by simp [qR, hx, h.p.1, h.p.2], h.x⟩
  exact h.elim
 ·rename_i d m ps
  split at h
  ·rename_i Us hU
   exact ⟨_, _, by simp [qR, hU, h.h.1], h.h.2⟩
  exact h.elim
 ·rename_i d m x lo hi
  split at h
  case h_2 => exact h.elim
  rename_i o m' xs hx
  split at h
  ·exact h.elim
  split at h
  case h_2 => exact h.elim
  rename_i hm
  have hm' := Nat.eq_of_beq_eq_true hm
  split at h
  case h_2 => exact h.elim
  rename_i l hl
  split at h
  ·obtain ⟨h0, h1, h2, h3⟩ := h.h.h
   have e2 : Sq (xs.length : Int) ((none : Option X).map (Aj σ)) = some (xs.length : Int) := rfl
   exact ⟨_, _, by simp only [qR, Zq, hx, hl, e2]; rw [if_pos ⟨hm', h0, h1, h2⟩]; rfl, h3⟩
  rename_i y
  split at h
  case h_2 => exact h.elim
  rename_i hh hy
  obtain ⟨h0, h1, h2, h3⟩ := h.h
  have e2 : Sq (xs.length : Int) ((some y).map (Aj σ)) = some hh := hy
  exact ⟨_, _, by simp only [qR, Zq, hx, hl, e2]; rw [if_pos ⟨hm', h0, h1, h2⟩]; rfl, h3⟩
 ·rename_i d x
  split at h
  ·rename_i hx
   exact ⟨_, _, by simp [qR, hx, Tk], h.h⟩
  ·rename_i hx
   obtain ⟨T, u, hT, hs, hn, hk⟩ := Io h
   split at hk
   case h_2 => exact hk.elim
   exact ⟨_, _, by simp [qR, hx, Tk, hn], hk.h⟩
  exact F8 h
 ·rename_i d x i
  split at h
  case h_2 => exact h.elim
  rename_i hx hi
  exact ⟨_, _, by simp only [qR, hx, hi]; rw [if_pos h.p], h.x⟩
 exact F8 h
def yK (σ : St) (m : Nat) (y : A) (K : List V → St → Prop) : Prop := match y with
 | .val (.sl _ m' ys) => match Nat.beq m' m with
   | true => K ys σ
   | false => False
 | .val (.nilsl _) => K [] σ
 | .ref r p => Vy (look σ r) p fun u => match u with
   | .sl o m' ys => match o with
     | true => match Nat.beq m' m with
       | true => NoOwn ys (K ys σ) (match E6 σ (.ref r p) with
         | some (_, σ1) => K ys σ1
         | none => False)
       | false => False
     | false => False
   | _ => False
 | _ => False
theorem Ais {σ : St} {m : Nat} {y : A} {K : List V → St → Prop} (h : yK σ m y K) : ∃ ys σ1, yS σ m y = some (ys, σ1) ∧ K ys σ1 := by
 unfold yK at h
 split at h
 ·split at h
  ·rename_i hm
   exact ⟨_, _, by simp [yS, Nat.eq_of_beq_eq_true hm], h⟩
  exact h.elim
 ·exact ⟨_, _, by simp [yS], h⟩
 ·obtain ⟨T, u, hT, hs, hn, hk⟩ := Io h
  split at hk
  case h_2 => exact hk.elim
  split at hk
  case h_2 => exact hk.elim
  split at hk
  case h_2 => exact hk.elim
  rename_i hm
  have hm' := Nat.eq_of_beq_eq_true hm
  rcases hk.h with ⟨h1, h2⟩ | ⟨h1, h2⟩
  ·exact ⟨_, _, by simp [yS, hn, hm', h1], h2⟩
  split at h2
  ·rename_i U σ1 ht
   exact ⟨_, _, by simp [yS, hn, hm', h1, ht], h2⟩
  exact h2.elim
 exact h.elim
def Aop : AOp → Bool
 | .mov .. => true
 | .pick .. => true
 | .bin .. => true
 | .binb .. => true
 | .un .. => true
 | .cnv .. => true
 | .len .. => true
 | .ext .. => true
 | .iad .. => true
 | .aad .. => true
 | .fadr .. => true
 | .ld .. => true
 | .nck .. => true
 | .mk .. => true
 | .mkc .. => true
 | .alc .. => true
 | .mkf .. => true
 | .slc .. => true
 | .sidx .. => true
 | _ => false
def Anv {α : Type} (f : α → V) (l : List α) (i : Nat) : List V := (l.map f).set i .dead
def holeW {α : Type} (f : α → V) (l : List α) (i : Nat) (v : V) : List V := (l.map f).set i v
def Ub (σ : St) (a : A) (K : V → St → Prop) : Prop := match a with
 | .ref r (c :: p) => (match look σ r with
   | .val T => Afz (c :: p) T fun u => Nr (c :: p) T .dead fun T' => K u (turnP r T' (c :: p) σ)
   | _ => False)
 | a => match F1 σ a with
   | some (v, σ') => K v σ'
   | none => False
theorem K7 {σ : St} {a : A} {K : V → St → Prop} (h : Ub σ a K) : ∃ v σ', F1 σ a = some (v, σ') ∧ K v σ' := by
 unfold Ub at h
 split at h
 ·rename_i r c p
  split at h
  case h_2 => exact h.elim
  rename_i T hT
  obtain ⟨u, h1, h2⟩ := Rb h
  obtain ⟨T', h3, h4⟩ := Hi h2
  exact ⟨u, _, by simp only [F1, E6, hT, h1, h3], h4⟩
 split at h
 ·exact ⟨_, _, by assumption, h⟩
 exact h.elim
def Al9 (o : AOp) (σ : St) (K : St → Prop) : Prop := match o with
 | .bsl d m ps => match Jp σ (ps.map (Aj σ)) with
   | some (Us, σ1) => BslQ d m Us fun l => Bn (A3 d (.val (.sl true m l)) σ1) K
   | none => False
 | .app d m x y => yK σ m (Aj σ y) fun ys σ1 => Ub σ1 (Aj σ1 x) fun v σ2 => match v with
   | .sl o m' xs => (match o with
     | true => (match Nat.beq m' m with
       | true => AppQ d xs ys fun l => Bn (A3 d (.val (.sl true m l)) σ2) K
       | false => False)
     | false => False)
   | _ => False
 | .slt d m x hi => match Af1 (Aj σ hi) with
   | some h => Ub σ (Aj σ x) fun v σ2 => match v with
     | .sl o m' xs => (match o with
       | true => (match Nat.beq m' m with
         | true => SlcQ xs 0 h fun ys => Bn (A3 d (.val (.sl true m ys)) σ2) K
         | false => False)
       | false => False)
     | _ => False
   | none => False
 | .idx d m n ag x i => match Aj σ i with
   | .val (.int k j) => Ask (0 ≤ j ∧ j < n) (Idx j 0 n fun j => Adm (if Acq σ (Aj σ x) then Am9 d m n ag (Aj σ x) (.val (.int k j)) σ else none) K)
   | _ => False
 | .st n x v => match F1 σ (Aj σ v) with
   | some (U, σ1) => match Eb σ1 (Aj σ1 x) with
     | some (.own r p c) => match look σ1 r with
       | .val T => Afz p T fun nd => match nd.node && decide (U.cells.length = n) && Ck U.cells with
         | true => SetKids nd c U.cells fun nd' => Nr p T nd' fun T' => Bn (J0 r T' (p.length + 1) σ1) K
         | false => False
       | _ => False
     | _ => False
   | none => False
 | o => Adm (Bt o σ) K
theorem Afe {o : AOp} {σ : St} {K : St → Prop} (h : Al9 o σ K) : ∃ σ', Bt o σ = some σ' ∧ K σ' := by
 unfold Al9 at h
 split at h
 ·rename_i d m ps
  split at h
  ·rename_i Us σ1 hU
   obtain ⟨h1, h2⟩ := h.h
   rw [A1] at h2
   exact ⟨_, by simp [Bt, Ajd, hU, h1], h2⟩
  exact h.elim
 ·rename_i d m x y
  obtain ⟨ys, σ1, hy, hk⟩ := Ais h
  obtain ⟨v, σ2, hX, hk⟩ := K7 hk
  split at hk
  case h_2 => exact hk.elim
  rename_i o m' xs
  split at hk
  case h_2 => exact hk.elim
  split at hk
  case h_2 => exact hk.elim
  rename_i hm
  have hm' := Nat.eq_of_beq_eq_true hm
  obtain ⟨h1, h2, h3⟩ := hk.h
  rw [A1] at h3
  exact ⟨_, by simp [Bt, Aji, hy, hX, hm', h1, h2], h3⟩
 ·rename_i d m x hi
  split at h
  case h_2 => exact h.elim
  rename_i hh hn
  obtain ⟨v, σ2, hX, hk⟩ := K7 h
  split at hk
  case h_2 => exact hk.elim
  rename_i o m' xs
  split at hk
  case h_2 => exact hk.elim
  split at hk
  case h_2 => exact hk.elim
  rename_i hm
  have hm' := Nat.eq_of_beq_eq_true hm
  obtain ⟨_, h1, h2, h3⟩ := hk.h
  rw [A1] at h3
  exact ⟨_, by simp only [Bt, Amf, hn, hX, hm', h1, h2, and_self, if_true], h3⟩
 ·rename_i d m n ag x i
  split at h
  case h_2 => exact h.elim
  rename_i hi
  obtain ⟨σ', h1, h2⟩ := Vi (h.x.h h.p.1 h.p.2)
  exact ⟨σ', by simp only [Bt, hi]; exact h1, h2⟩
 ·rename_i n x v
  split at h
  case h_2 => exact h.elim
  rename_i U σ1 ht
  split at h
  case h_2 => exact h.elim
  rename_i r p c hl
  split at h
  case h_2 => exact h.elim
  rename_i T hT
  obtain ⟨u, hs, hk⟩ := Rb h
  split at hk
  case h_2 => exact hk.elim
  rename_i hc
  obtain ⟨nd', h1, h2⟩ := hk.h
  obtain ⟨T', h3, h4⟩ := Hi h2
  rw [A1] at h4
  exact ⟨_, by simp only [Bt, Adt, ht, hl, hT, hs, hc, h1, h3, if_true], h4⟩
 exact Vi h
def Ab0 (o : AOp) (σ : St) (K : St → Prop) : Prop := match Aop o with
 | true => Vf o σ fun d a => Bn (A3 d a σ) K
 | false => Al9 o σ K
theorem La {o : AOp} {σ : St} {K : St → Prop} (h : Ab0 o σ K) : ∃ σ', Bt o σ = some σ' ∧ K σ' := by
 unfold Ab0 at h
 split at h
 ·obtain ⟨d, a, h1, h2⟩ := K0 h
  rw [A1] at h2
  exact ⟨_, (Acu h1).1, h2⟩
 exact Afe h
structure CallQ (P : Program) (f d : Nat) (vs : List V) (ls : List (Nat × Nat × List Nat)) (rs : List Nat) (K : St → Prop) (σ : St) : Prop where
 h : H8 ls rs = true ∧ Tri P f vs (E2 d ls rs K σ)
structure CallP (P : Program) (f d : Nat) (vs : List V) (rs : List Nat) (K : V → Prop) : Prop where
 h : ∃ v, Tri P f vs (fun res _ => res = v ∧ Fx rs v = true) ∧ K v
structure CloQ (P : Program) (f d : Nat) (cs vs : List V) (rs : List Nat) (K : St → Prop) (σ : St) : Prop where
 h : Tri P f (vs ++ fzL cs) (E2 d [] rs K σ)
def Agh (σ : St) (a : A) (io : Bool) (k : Nat) (K : V → List (Nat × Nat × List Nat) → List Nat → Prop) : Prop := match a with
 | .val v => K v.fz [] []
 | .ref r p => Vy (look σ r) p fun u => match io && u.node with
   | true => K u [(k, r, p)] []
   | false => K u.fz [] [r]
 | a => match Ik σ a with
   | some v => K v [] a.roots
   | none => False
def Sd (σ : St) : List (A × Bool) → Nat → (List V → List (Nat × Nat × List Nat) → List Nat → Prop) → Prop
 | [], _, K => K [] [] []
 | (a, io) :: rest, k, K => Agh σ a io k fun v ls' rs' => Sd σ rest (k + 1) fun vs ls rs => K (v :: vs) (ls' ++ ls) (rs' ++ rs)
theorem Aj5 {σ : St} {a : A} {io : Bool} {k : Nat} {K : V → List (Nat × Nat × List Nat) → List Nat → Prop} (h : Agh σ a io k K) :
  (∃ r p u, io = true ∧ Kz σ a = some (r, p, u) ∧ K u [(k, r, p)] []) ∨ ((io = true → Kz σ a = none) ∧ ∃ v, Ik σ a = some v ∧ K v [] a.roots) := by
 cases a with
 | val v => exact .inr ⟨fun _ => rfl, _, rfl, h⟩
 | ref r p =>
   obtain ⟨T, u, hT, hs, hn, hk⟩ := Io h
   split at hk
   ·rename_i hb
    simp only [Bool.and_eq_true] at hb
    exact .inl ⟨r, p, u, hb.1, by simp [Kz, hn, hb.2], hk⟩
   ·rename_i hb
    refine .inr ⟨fun hi => ?_, u.fz, by simp [Ik, hn], hk⟩
    simp only [Kz, hn]
    cases hu : u.node with
    | false => rfl
    | true => rw [hi, hu] at hb; cases hb
 | top => simp [Agh, Ik] at h
 | addr r p c => simp [Agh, Ik] at h
 | fad cs => simp [Agh, Ik] at h
 | agg as =>
   simp only [Agh] at h
   split at h
   ·exact .inr ⟨fun _ => rfl, _, by assumption, h⟩
   ·exact h.elim
 | clo f as =>
   simp only [Agh] at h
   split at h
   ·exact .inr ⟨fun _ => rfl, _, by assumption, h⟩
   ·exact h.elim
theorem Ig {σ : St} : ∀ {as : List (A × Bool)} {k : Nat} {K : List V → List (Nat × Nat × List Nat) → List Nat → Prop}, Sd σ as k K → ∃ vs ls rs, Dg σ as k = some (vs, ls, rs) ∧ K vs ls rs := by
 intro as
 induction as with
 | nil => intro k K h; exact ⟨[], [], [], rfl, h⟩
 | cons e rest ih =>
   intro k K h
   obtain ⟨a, io⟩ := e
   simp only [Sd] at h
   rcases Aj5 h with ⟨r, p, u, h1, h2, h3⟩ | ⟨h1, v, h2, h3⟩
   ·obtain ⟨vs, ls, rs, h4, h5⟩ := ih h3
    exact ⟨_, _, _, by simp [Dg, h4, h1, h2], h5⟩
   ·obtain ⟨vs, ls, rs, h4, h5⟩ := ih h3
    refine ⟨_, _, _, ?_, h5⟩
    simp only [Dg, h4]
    have : (if io = true then Kz σ a else none) = none := by split <;> simp_all
    simp [this, h2]
structure LendQ (P : Program) (f d : Nat) (bs : List A) (vs : List V) (ls : List (Nat × Nat × List Nat)) (rs : List Nat) (K : St → Prop) (σ : St) : Prop where
 h : H8 ls rs = true ∧ Tri P f (.agg (vs.take bs.length) :: vs.drop bs.length) (Ml (E2 d ls rs K σ))
def Aib (P : Program) (f d : Nat) (as : List (A × Bool)) (K : St → Prop) (σ : St) : Prop := match Nh as with
 | some (bs, rest) => Sd σ (bs.map (·, true) ++ rest) 0 fun vs ls rs => LendQ P f d bs vs ls rs K σ
 | none => Sd σ as 0 fun vs ls rs => CallQ P f d vs ls rs K σ
def opK (P : Program) (o : AOp) (σ : St) (K : St → Prop) : Prop := match o with
 | .call d f as => Aib P f d (Cw σ as) K σ
 | .cally d x as => match Aj σ x with
   | .val (.clo f cs) => Sd σ (Cw σ (as.map (·, false))) 0 fun vs ls rs => match ls with
     | [] => CloQ P f d cs vs rs K σ
     | _ => False
   | .val (.fclo f cs) => Sd σ (Cw σ (as.map (·, false))) 0 fun vs ls rs => match ls with
     | [] => CloQ P f d cs vs rs K σ
     | _ => False
   | .clo f cs => Aib P f d (Cw σ (as.map (·, false)) ++ cs.map fun a => (a, false)) K σ
   | _ => False
 | .slc d m (.t s) lo hi => (match look σ s with
   | .val T => (match T.hasOwn with
     | true => Bn (Ahi s σ) fun σ' => Ab0 (.slc d m (.t s) lo hi) σ' K
     | false => Ab0 (.slc d m (.t s) lo hi) σ K)
   | _ => Ab0 (.slc d m (.t s) lo hi) σ K)
 | o => Ab0 o σ K
theorem Vp {P : Program} {f d : Nat} {as : List (A × Bool)} {K : St → Prop} {σ : St} (h : Aib P f d as K σ) : Gc P f d as K σ := by
 unfold Aib at h
 unfold Gc
 split at h
 ·rename_i e
  simp only [e]
  obtain ⟨vs, ls, rs, h1, h2⟩ := Ig h
  rw [h1]; exact h2.h
 rename_i e
 simp only [e]
 obtain ⟨vs, ls, rs, h1, h2⟩ := Ig h
 rw [h1]; exact h2.h
theorem Zk {σ : St} : ∀ (cs : List V) (k : Nat), Dg σ (cs.map fun c => (A.val c, false)) k = some (fzL cs, [], []) := by
 intro cs
 induction cs with
 | nil => intro k; rfl
 | cons c r ih => intro k; simp [Dg, ih, Ik, fzL, A.roots]
theorem R8 {σ : St} {bs : List (A × Bool)} {us : List V} (hb : ∀ k, Dg σ bs k = some (us, [], [])) : ∀ {as : List (A × Bool)} {k : Nat} {vs ls rs}, Dg σ as k = some (vs, ls, rs) →
  Dg σ (as ++ bs) k = some (vs ++ us, ls, rs) := by
 intro as
 induction as with
 | nil => intro k vs ls rs h; simp [Dg] at h; obtain ⟨rfl, rfl, rfl⟩ := h; exact hb k
 | cons e rest ih =>
   intro k vs ls rs h
   obtain ⟨a, io⟩ := e
   simp only [Dg] at h
   split at h
   ·cases h
   ·rename_i vs' ls' rs' h1
    simp only [List.cons_append, Dg, ih h1]
    split at h
    ·rename_i r p u h2
     cases h
     rfl
    ·rename_i h2
     split at h
     ·rename_i v h3
      cases h
      rfl
     ·cases h
theorem Y1 {σ : St} {xs : List X} {cs : List V} : Nh (Cw σ (xs.map (·, false)) ++ cs.map fun c => (A.val c, false)) = none := by
 cases xs with
 | nil => cases cs <;> rfl
 | cons x r =>
   simp only [Cw, List.map_cons, List.cons_append]
   cases Aj σ x <;> rfl
theorem Ux {P : Program} {o : AOp} {σ : St} {K : St → Prop} (h : opK P o σ K) : N4 P o K σ := by
 unfold opK at h
 unfold N4
 split at h
 ·exact Vp h
 ·split at h
  ·rename_i e
   obtain ⟨vs, ls, rs, h1, h2⟩ := Ig h
   split at h2
   case h_2 => exact h2.elim
   simp only [e, Se]
   unfold Gc
   rw [Y1]
   simp only
   rw [R8 (fun k => Zk _ k) h1]
   exact ⟨rfl, h2.h⟩
  ·rename_i e
   obtain ⟨vs, ls, rs, h1, h2⟩ := Ig h
   split at h2
   case h_2 => exact h2.elim
   simp only [e, Se]
   unfold Gc
   rw [Y1]
   simp only
   rw [R8 (fun k => Zk _ k) h1, Rx]
   exact ⟨rfl, h2.h⟩
  ·rename_i e
   simp only [e, Se]; exact Vp h
  exact h.elim
 ·rename_i d m s lo hi
  simp only [So]
  split at h
  ·rename_i T hT
   simp only [hT]
   split at h
   ·rename_i ho
    rw [A1] at h
    obtain ⟨σ', e, hk⟩ := La h
    simp only [ho]
    rw [e]; exact hk
   rename_i ho
   obtain ⟨σ', e, hk⟩ := La h
   simp only [ho]
   rw [e]; exact hk
  rename_i hne
  obtain ⟨σ', e, hk⟩ := La h
  split
  ·rename_i σ2 he
   split at he
   ·rename_i T hT; exact absurd hT (hne T)
   rw [e] at he; cases he; exact hk
  rename_i he
  split at he
  ·rename_i T hT; exact absurd hT (hne T)
  rw [e] at he; cases he
 rename_i h1 h2 h3
 obtain ⟨σ', e, hk⟩ := La h
 have hp : So o σ = σ := by
  unfold So
  split
  ·exact absurd rfl (h3 _ _ _ _ _)
  ·rfl
 split
 ·exact absurd rfl (h1 _ _ _)
 ·exact absurd rfl (h2 _ _ _)
 rw [hp, e]; exact hk
def Agd (P : Program) (o : AOp) (σ : St) (K : St → Prop) : Prop := match o with
 | .call d f as => (match Abn as with
   | [] => opK P (.call d f as) σ K
   | _ :: _ => Bn (Ra as σ) fun τ => opK P (.call d f as) τ K)
 | o => opK P o σ K
theorem Yf {P : Program} {o : AOp} {σ : St} {K : St → Prop} (h : Agd P o σ K) : Jw P o K σ := by
 unfold Agd at h
 unfold Jw
 split at h
 ·simp only [Ox]
  split at h
  ·rename_i e
   simp only [e]
   exact Ux h
  rename_i e
  rw [A1] at h
  simp only [e]
  exact Ux h
 rename_i h1
 have hp : Ox o σ = σ := by
  unfold Ox
  split
  ·exact absurd rfl (h1 _ _ _)
  ·rfl
 rw [hp]
 exact Ux h
def Kp (P : Program) : List G → (St → Prop) → St → Prop
 | [], K, σ => K σ
 | ⟨none, o⟩ :: r, K, σ => Agd P o σ (Kp P r K)
 | ⟨some (s, true), o⟩ :: r, K, σ => match look σ s with
   | .val (.bool b) => Br b (Bn (Hg s true σ) fun τ => Agd P o τ (Kp P r K)) (Bn (Oq o (Hg s false σ)) (Kp P r K))
   | .val (.tup []) => Bn (Oq o σ) (Kp P r K)
   | _ => False
 | ⟨some (s, false), o⟩ :: r, K, σ => match look σ s with
   | .val (.bool b) => Br b (Bn (Oq o (Hg s true σ)) (Kp P r K)) (Bn (Hg s false σ) fun τ => Agd P o τ (Kp P r K))
   | .val (.tup []) => Bn (Oq o σ) (Kp P r K)
   | _ => False
theorem Li {P : Program} : ∀ {gs : List G} {K : St → Prop} {σ : St}, Kp P gs K σ → Do P gs K σ := by
 intro gs
 induction gs with
 | nil => intro K σ h; exact h
 | cons x r ih =>
   intro K σ h
   obtain ⟨g, o⟩ := x
   have run : ∀ {τ}, Agd P o τ (Kp P r K) → Jw P o (Do P r K) τ := fun h => G2 (fun _ => ih) (Yf h)
   match g, h with
   | none, h => exact run h
   | some (s, true), h =>
     simp only [Kp] at h
     simp only [Do]
     split at h
     ·rename_i b hb
      simp only [hb]
      refine ⟨fun e => ?_, fun e => ?_⟩
      ·subst e
       have := h.t rfl
       rw [A1, Kc hb] at this
       exact run this
      ·have e' : b = false := by simpa using e
       subst e'
       have := h.f rfl
       rw [A1, Kc hb] at this
       exact ih this
     ·rename_i hb
      simp only [hb]
      rw [A1] at h; exact ih h
     ·exact h.elim
   | some (s, false), h =>
     simp only [Kp] at h
     simp only [Do]
     split at h
     ·rename_i b hb
      simp only [hb]
      refine ⟨fun e => ?_, fun e => ?_⟩
      ·subst e
       have := h.f rfl
       rw [A1, Kc hb] at this
       exact run this
      ·have e' : b = true := by simpa using e
       subst e'
       have := h.t rfl
       rw [A1, Kc hb] at this
       exact ih this
     ·rename_i hb
      simp only [hb]
      rw [A1] at h; exact ih h
     ·exact h.elim
def yNK (σ : St) (m s : Nat) (y : A) (K : List V → Prop) : Prop := match y with
 | .val (.sl _ m' ys) => (match Nat.beq m' m with
   | true => K ys
   | false => False)
 | .val (.nilsl _) => K []
 | .ref r p => (match Nat.beq r s with
   | true => False
   | false => Vy (look σ r) p fun u => match u with
     | .sl o m' ys => (match o with
       | true => (match Nat.beq m' m with
         | true => NoOwn ys (K ys) False
         | false => False)
       | false => False)
     | _ => False)
 | _ => False
theorem Akr {σ : St} {m s : Nat} {y : A} {K : List V → Prop} (h : yNK σ m s y K) : ∃ ys, yN σ m s y = some ys ∧ K ys := by
 unfold yNK at h
 split at h
 ·split at h
  ·rename_i hm
   exact ⟨_, by simp [yN, Nat.eq_of_beq_eq_true hm], h⟩
  exact h.elim
 ·exact ⟨_, by simp [yN], h⟩
 ·split at h
  ·exact h.elim
  rename_i hrs
  obtain ⟨T, u, hT, hs, hn, hk⟩ := Io h
  split at hk
  case h_2 => exact hk.elim
  split at hk
  case h_2 => exact hk.elim
  split at hk
  case h_2 => exact hk.elim
  rename_i hm
  have hm' := Nat.eq_of_beq_eq_true hm
  have hne : ∀ {r : Nat}, Nat.beq r s = false → r ≠ s := by
   intro r h1 h2; subst h2; simp at h1
  rcases hk.h with ⟨h1, h2⟩ | ⟨_, h2⟩
  ·exact ⟨_, by simp [yN, hn, hm', h1, hne hrs], h2⟩
  exact h2.elim
 exact h.elim
def Yu : List Nat → (List Nat → Prop) → Prop
 | [], K => K []
 | n :: r, K => Yu r fun s => K (n :: s)
theorem Abs : ∀ (l : List Nat) (K : List Nat → Prop), Yu l K = K l := by
 intro l
 induction l with
 | nil => intro K; rfl
 | cons n r ih => intro K; simp only [Yu]; rw [ih]
def Agr (P : Program) (o : AOp) (σ : St) (K : Nat → A → List Nat → Prop) : Prop := match o with
 | .call d f as => match as.all (fun e => !e.2) with
   | true => Sd σ (Cw σ as) 0 fun vs ls rs => match ls with
     | [] => CallP P f d vs rs fun v => K d (.val v) []
     | _ => False
   | false => False
 | .app d m (.t s) y => (match look σ s with
   | .val (.sl o m' xs) => (match o with
     | true => (match Nat.beq m' m with
       | true => yNK σ m s (Aj σ y) fun ys => AppQ d xs ys fun l => K d (.val (.sl true m l)) [s]
       | false => False)
     | false => False)
   | _ => False)
 | .bsl d m ps => (match Jm σ ps with
   | some (Us, ks) => BslQ d m Us fun l => Yu ks fun ks => K d (.val (.sl true m l)) ks
   | none => False)
 | .asg d (.t s) => (match look σ s with
   | .val v => (match v.hasOwn with
     | true => Lr (.val v) fun a => K d a [s]
     | false => Lr (.val v.up) fun a => K d a [])
   | _ => False)
 | o => Vf o σ fun d a => K d a []
theorem Ac4 {P : Program} {o : AOp} {σ : St} {K : Nat → A → List Nat → Prop} (h : Agr P o σ K) : Kn P o σ K := by
 unfold Agr at h
 unfold Kn
 split at h
 ·split at h
  case h_2 => exact h.elim
  rename_i hio
  refine ⟨hio, ?_⟩
  obtain ⟨vs, ls, rs, h1, h2⟩ := Ig h
  split at h2
  case h_2 => exact h2.elim
  rw [h1]
  exact h2.h
 ·split at h
  case h_2 => exact h.elim
  rename_i hL
  split at h
  case h_2 => exact h.elim
  split at h
  case h_2 => exact h.elim
  rename_i hm
  obtain ⟨ys, h1, h2⟩ := Akr h
  simp only [hL, h1]
  obtain ⟨k1, k2, k3⟩ := h2.h
  exact ⟨⟨trivial, Nat.eq_of_beq_eq_true hm, k1, k2⟩, k3⟩
 ·split at h
  case h_2 => exact h.elim
  rename_i ht
  obtain ⟨k1, k2⟩ := h.h
  rw [Abs] at k2
  simp only [ht]
  exact ⟨k1, k2⟩
 ·split at h
  case h_2 => exact h.elim
  rename_i hL
  split at h
  ·rename_i hv
   rw [It] at h
   simp only [hL, hv]; exact h
  rename_i hv
  rw [It] at h
  simp only [hL, hv]; exact h
 rename_i h1 h2 h3 h4
 obtain ⟨d, a, e, hk⟩ := K0 h
 split
 ·exact absurd rfl (h1 _ _ _)
 ·exact absurd rfl (h2 _ _ _ _)
 ·exact absurd rfl (h3 _ _ _)
 ·exact absurd rfl (h4 _ _)
 rw [e]; exact hk
def hk (hide kl : List Nat) : List Nat := match kl with
 | [] => hide
 | k :: r => hide ++ (k :: r)
theorem Ae8 (hide kl : List Nat) : hk hide kl = hide ++ kl := by
 cases kl with
 | nil => simp [hk]
 | cons k r => rfl
def Alt (acc : St) (kl : List Nat) : Bool := match kl with
 | [] => true
 | k :: r => I6 acc (k :: r)
theorem Abd {acc : St} {kl : List Nat} (h : Alt acc kl = true) : I6 acc kl = true := by
 cases kl with
 | nil => unfold I6; simp
 | cons k r => exact h
def Aiq (kl : List Nat) (acc : St) : St := match kl with
 | [] => acc
 | k :: r => Ct (k :: r) acc
theorem Af2 (kl : List Nat) (acc : St) : Aiq kl acc = Ct kl acc := by
 cases kl with
 | nil =>
   simp only [Aiq]
   induction acc with
   | nil => rfl
   | cons e r ih => obtain ⟨d, a⟩ := e; simp [Ct, ← ih]
 | cons k r => rfl
structure LendP (P : Program) (f d : Nat) (vs : List V) (rs : List Nat) (k : Nat) (p : List Nat) (T : V) (K : V → V → Prop) : Prop where
 h : ∃ v u T', Tri P f vs (fun res outs => res = v ∧ outs[k]? = some u) ∧ (Fx rs v = true ∧ Fx rs u = true ∧ u.node = true ∧ upd p T u = some T') ∧ K v T'
def Aca (P : Program) (o : AOp) (s : Nat) (σ : St) (K : Nat → V → Nat × V × Nat → Prop) : Prop := match o with
 | .call d f as => (match Nh (Cw σ as) with
   | some _ => False
   | none => Sd σ (Cw σ as) 0 fun vs ls rs => match ls with
     | [(k, r, p)] => (match Nat.beq r s && !rs.contains r with
       | true => (match look σ r with
         | .val T => LendP P f d vs rs k p T fun v T' => K d v (r, T', p.length + 1)
         | _ => False)
       | false => False)
     | _ => False)
 | _ => False
theorem Aaj {P : Program} {o : AOp} {s : Nat} {σ : St} {K : Nat → V → Nat × V × Nat → Prop} (h : Aca P o s σ K) : O9 P o s σ K := by
 unfold Aca at h
 unfold O9
 split at h
 case h_2 => exact h.elim
 split at h
 ·exact h.elim
 rename_i hgv
 obtain ⟨vs, ls, rs, h1, h2⟩ := Ig h
 split at h2
 case h_2 => exact h2.elim
 rename_i k r p
 split at h2
 case h_2 => exact h2.elim
 rename_i hb
 simp only [Bool.and_eq_true, Bool.not_eq_true'] at hb
 split at h2
 case h_2 => exact h2.elim
 rename_i T hT
 simp only [hgv, h1, hT]
 exact ⟨⟨Nat.eq_of_beq_eq_true hb.1, hb.2⟩, h2.h⟩
def W0 (ls hide : List Nat) (cs : List (Nat × V × Nat)) (σ : St) : St := match ls with
 | [] => σ
 | l :: q => Ia (l :: q) hide cs σ
theorem Ai4 (σ : St) : Q6 [] σ = σ := by
 induction σ with
 | nil => rfl
 | cons e r ih =>
   obtain ⟨k, a⟩ := e
   simp [Q6, ih]
theorem Alz {ls hide : List Nat} {cs : List (Nat × V × Nat)} {σ : St} (hc : ∀ c ∈ cs, ls.contains c.1 = true) : W0 ls hide cs σ = Ia ls hide cs σ := by
 cases ls with
 | nil =>
   have : cs = [] := by
    cases cs with
    | nil => rfl
    | cons c q => have := hc c (by simp); simp at this
   subst this
   simp only [W0, Ia, List.filter_nil, Ea]
   have : (List.filter (fun x => ([] : List Nat).contains x) hide) = [] := by simp
   rw [this, Ai4]
 | cons l q => rfl
abbrev Agx := St → List Nat → List (Nat × V × Nat) → (St → Prop) → Prop
def Aio (σ0 acc : St) (o : AOp) (hide kl : List Nat) (cs : List (Nat × V × Nat)) (K : St → Prop) (ih : Agx) (acc1 : St) (d : Nat) (a : A) (ks : List Nat) : Prop := match K2 d acc σ0 with
 | true => (match ks with
   | [] => Bn (acc1 ++ [(d, a.mapR (As d 0))]) fun acc' => ih acc' kl cs K
   | k :: q => (match Rk (k :: q) o (Ct (hk hide kl) acc) with
     | true => Bn (acc1 ++ [(d, a.mapR (As d 0))]) fun acc' => Yu (kl ++ (k :: q)) fun kl' => ih acc' kl' cs K
     | false => False))
 | false => False
def P4 (σ0 acc : St) (o : AOp) (kl : List Nat) (cs : List (Nat × V × Nat)) (K : St → Prop) (ih : Agx) (acc1 : St) : Prop := match o.dst with
 | some d => (match K2 d acc σ0 with
   | true => Bn (acc1 ++ [(d, .val (.tup []))]) fun acc' => ih acc' kl cs K
   | false => False)
 | none => False
def Xz (P : Program) (ls : List Nat) (σ0 acc : St) (o : AOp) (hide kl : List Nat) (cs : List (Nat × V × Nat)) (K : St → Prop) (ih : Agx) (acc1 : St) : Prop :=
 Bn (Ct (hk hide kl) acc1 ++ W0 ls hide cs σ0) fun σh => Agr P o σh (Aio σ0 acc o hide kl cs K ih acc1)
def Aiw (P : Program) (ls : List Nat) (σ0 acc : St) (o : AOp) (s : Nat) (hide kl : List Nat) (cs : List (Nat × V × Nat)) (K : St → Prop) (ih : Agx) : Prop :=
 Bn (Ct (hk hide kl) acc ++ W0 ls hide.tail cs σ0) fun σh => Aca P o s σh fun d v c => match K2 d acc σ0 && ls.contains s && Ahl (look σ0 s) && Nat.beq c.1 s with
  | true => Bn (acc ++ [(d, .val v)]) fun acc' => ih acc' kl (cs ++ [c]) K
  | false => False
def R9 (P : Program) (ls : List Nat) (σ0 : St) (x : G × List Nat) (ih : Agx) (acc : St) (kl : List Nat) (cs : List (Nat × V × Nat)) (K : St → Prop) : Prop := match x with
 | (⟨none, o⟩, hide) => (match H5 o hide with
   | [] => Xz P ls σ0 acc o hide kl cs K ih acc
   | s :: _ => Aiw P ls σ0 acc o s hide kl cs K ih)
 | (⟨some (s, true), o⟩, hide) => (match (hk hide kl).contains s || !(H5 o hide).isEmpty with
   | true => False
   | false => (match look (Ct (hk hide kl) acc ++ W0 ls hide cs σ0) s with
     | .val (.bool b) => Br b (Xz P ls σ0 acc o hide kl cs K ih (Hg s true acc)) (P4 σ0 acc o kl cs K ih (Hg s false acc))
     | .val (.tup []) => P4 σ0 acc o kl cs K ih acc
     | _ => False))
 | (⟨some (s, false), o⟩, hide) => (match (hk hide kl).contains s || !(H5 o hide).isEmpty with
   | true => False
   | false => (match look (Ct (hk hide kl) acc ++ W0 ls hide cs σ0) s with
     | .val (.bool b) => Br b (P4 σ0 acc o kl cs K ih (Hg s true acc)) (Xz P ls σ0 acc o hide kl cs K ih (Hg s false acc))
     | .val (.tup []) => P4 σ0 acc o kl cs K ih acc
     | _ => False))
def Agu (σ0 acc : St) (kl : List Nat) (cs : List (Nat × V × Nat)) (K : St → Prop) : Prop := match Alt acc kl with
 | true => (match cs with
   | [] => Bn (Aiq kl acc ++ σ0) K
   | c :: q => (match Vz acc (c :: q) with
     | true => Bn (Aiq kl acc ++ Ea (c :: q) σ0) K
     | false => False))
 | false => False
def Abo (P : Program) (ls : List Nat) (σ0 : St) (l : List (G × List Nat)) : Agx :=
 List.rec (motive := fun _ => Agx) (Agu σ0) (fun x _ ih => R9 P ls σ0 x ih) l
theorem M6 {hide : List Nat} {acc σ0 : St} {s : Nat} {b : Bool} (h : look (Ct hide acc ++ σ0) s = .val (.bool b)) (hh : hide.contains s = false) : Hg s b acc = acc := by
 rw [D1] at h
 split at h
 ·rw [Re _ _ _ hh] at h
  exact Kc h
 rename_i hk
 rw [Px] at hk
 have hk' : Aw s acc = false := by
  rw [hh] at hk; simpa using hk
 clear h hk
 induction acc with
 | nil => rfl
 | cons e r ih =>
   obtain ⟨k, a⟩ := e
   simp only [Aw, Bool.or_eq_false_iff, beq_eq_false_iff_ne] at hk'
   simp only [Hg]
   rw [show Nat.beq k s = false by
    cases hb : Nat.beq k s with
    | false => rfl
    | true => exact absurd (Nat.eq_of_beq_eq_true hb) hk'.1]
   simp only [ih hk'.2]
theorem Ahk {P : Program} {o : AOp} {σ : St} {c c' : Nat → A → List Nat → Prop} (h : ∀ d a ks, c d a ks → c' d a ks) (ha : Kn P o σ c) : Kn P o σ c' := Rt h ha
theorem Vm {P : Program} {ls : List Nat} {σ0 : St} : ∀ {l : List (G × List Nat)} {acc : St} {kl : List Nat} {cs : List (Nat × V × Nat)} {KS : List (List Nat)} {CS : List (List (Nat × V × Nat))} {K : St → Prop}, KS.flatten = kl → CS.flatten = cs → (∀ c ∈ cs, ls.contains c.1 = true) → Abo P ls σ0 l acc kl cs K → D9 P ls σ0 l acc KS CS K := by
 intro l
 induction l with
 | nil =>
   intro acc kl cs KS CS K hkl hcs hin h
   subst hkl
   change Agu σ0 acc KS.flatten cs K at h
   simp only [Agu] at h
   split at h
   ·rename_i hr
    split at h
    ·rw [A1, Af2] at h
     refine ⟨⟨Abd hr, ?_⟩, ?_⟩
     ·rw [hcs]; unfold Vz; simp
     ·rw [hcs]; exact h
    ·split at h
     ·rename_i hr2
      rw [A1, Af2] at h
      rw [← hcs] at h hr2
      exact ⟨⟨Abd hr, hr2⟩, h⟩
     ·exact h.elim
   ·exact h.elim
 | cons x r ih =>
   intro acc kl cs KS CS K hkl hcs hin h
   subst hkl
   obtain ⟨⟨g, o⟩, hide⟩ := x
   change R9 P ls σ0 (⟨g, o⟩, hide) (Abo P ls σ0 r) acc KS.flatten cs K at h
   have hbk : ∀ hide, W0 ls hide cs σ0 = Ia ls hide CS.flatten σ0 := fun hide => by rw [Alz hin, hcs]
   have run : Xz P ls σ0 acc o hide KS.flatten cs K (Abo P ls σ0 r) acc → Kn P o (Ct (hide ++ KS.flatten) acc ++ Ia ls hide CS.flatten σ0) fun d a ks => (K2 d acc σ0 = true ∧ Rk ks o (Ct (hide ++ KS.flatten) acc) = true) ∧ D9 P ls σ0 r (acc ++ [(d, a.mapR (As d 0))]) (KS ++ [ks]) (CS ++ [[]]) K := by
    intro h
    unfold Xz at h
    rw [A1, Ae8, hbk] at h
    refine Ahk ?_ (Ac4 h)
    intro d a ks hk
    unfold Aio at hk
    rw [Ae8] at hk
    split at hk
    ·rename_i hf
     split at hk
     ·rw [A1] at hk
      exact ⟨⟨hf, rfl⟩, ih (by simp) (by simp [hcs]) hin hk⟩
     ·split at hk
      ·rename_i hkk
       rw [A1, Abs] at hk
       exact ⟨⟨hf, hkk⟩, ih (by simp) (by simp [hcs]) hin hk⟩
      ·exact hk.elim
    ·exact hk.elim
   have skip : P4 σ0 acc o KS.flatten cs K (Abo P ls σ0 r) acc → (match o.dst with
      | some d => K2 d acc σ0 = true ∧ D9 P ls σ0 r (acc ++ [(d, .val (.tup []))]) (KS ++ [[]]) (CS ++ [[]]) K
      | none => False) := by
    intro h
    unfold P4 at h
    cases hd : o.dst with
    | none => rw [hd] at h; exact h.elim
    | some d =>
      rw [hd] at h
      cases hf : K2 d acc σ0 with
      | false => simp only [hf] at h
      | true =>
        simp only [hf] at h
        rw [A1] at h
        exact ⟨hf, ih (by simp) (by simp [hcs]) hin h⟩
   match g, h with
   | none, h =>
     simp only [R9] at h
     simp only [D9]
     cases hlo : H5 o hide with
     | nil => rw [hlo] at h; exact run h
     | cons s q =>
       rw [hlo] at h
       simp only at h ⊢
       unfold Aiw at h
       rw [A1, Ae8, hbk] at h
       refine Vo ?_ (Aaj h)
       intro d v c hc
       split at hc
       case h_2 => exact hc.elim
       rename_i hcond
       simp only [Bool.and_eq_true] at hcond
       rw [A1] at hc
       refine ⟨⟨hcond.1.1.1, hcond.1.1.2, hcond.1.2⟩, ih (by simp) (by simp [hcs]) ?_ hc⟩
       intro c' hc'
       rcases List.mem_append.1 hc' with h1 | h1
       ·exact hin c' h1
       ·simp at h1
        subst h1
        rw [Nat.eq_of_beq_eq_true hcond.2]; exact hcond.1.1.2
   | some (s, true), h =>
     simp only [R9, Ae8, hbk] at h
     simp only [D9]
     split at h
     ·exact h.elim
     rename_i hh
     simp only [Bool.or_eq_false_iff, Bool.not_eq_false', List.isEmpty_iff] at hh
     refine ⟨hh.2, ?_⟩
     replace hh := hh.1
     split at h
     ·rename_i b hb
      simp only [hb]
      refine ⟨fun e => ?_, fun e => ?_⟩
      ·subst e
       have := h.t rfl
       rw [M6 hb hh] at this
       exact run this
      ·have e' : b = false := by simpa using e
       subst e'
       have := h.f rfl
       rw [M6 hb hh] at this
       exact skip this
     ·rename_i hb
      simp only [hb]
      exact skip h
     ·exact h.elim
   | some (s, false), h =>
     simp only [R9, Ae8, hbk] at h
     simp only [D9]
     split at h
     ·exact h.elim
     rename_i hh
     simp only [Bool.or_eq_false_iff, Bool.not_eq_false', List.isEmpty_iff] at hh
     refine ⟨hh.2, ?_⟩
     replace hh := hh.1
     split at h
     ·rename_i b hb
      simp only [hb]
      refine ⟨fun e => ?_, fun e => ?_⟩
      ·subst e
       have := h.f rfl
       rw [M6 hb hh] at this
       exact run this
      ·have e' : b = true := by simpa using e
       subst e'
       have := h.t rfl
       rw [M6 hb hh] at this
       exact skip this
     ·rename_i hb
      simp only [hb]
      exact skip h
     ·exact h.elim
structure SameQ (x y : A) (K : Prop) : Prop where
 h : x = y ∧ K
def Ab2 (A : List (Nat × AOp)) (K : St → Prop) : St → Prop :=
 List.rec (motive := fun _ => St → Prop) K (fun e _ ih σ => Vf e.2 σ fun d a => match Q5 a with
  | true => Bn (A3 d a σ) ih
  | false => False) A
def Xx (xs : List Nat) (σ : St) (K : Prop) (A : List (Nat × AOp)) : Prop :=
 List.rec (motive := fun _ => Prop) K (fun e _ ih => match xs.contains e.1 with
  | true => Vf e.2 σ fun d a => match Af6 a d σ with
    | true => SameQ (look σ d) a ih
    | false => False
  | false => ih) A
def P5 (P : Program) (o : AOp) (ds : List Nat) (σ : St) (K : St → Prop) : Prop := match ds with
 | [] => Agd P o σ K
 | s :: q => (match o with
   | .app d m x y => yK σ m (Aj σ y) fun ys σ1 => Ub σ1 (Aj σ1 x) fun v σ2 => match v with
     | .sl o m' xs => (match o with
       | true => (match Nat.beq m' m with
         | true => AppQ d xs ys fun l => Bn (F4 (s :: q) (A3 d (.val (.sl true m l)) σ2)) K
         | false => False)
       | false => False)
     | _ => False
   | .slt d m x hi => (match Af1 (Aj σ hi) with
     | some h => Ub σ (Aj σ x) fun v σ2 => match v with
       | .sl o m' xs => (match o with
         | true => (match Nat.beq m' m with
           | true => SlcQ xs 0 h fun ys => Bn (F4 (s :: q) (A3 d (.val (.sl true m ys)) σ2)) K
           | false => False)
         | false => False)
       | _ => False
     | none => False)
   | _ => False)
theorem Ajr (σ : St) : F4 [] σ = σ := by
 have key : ∀ a : A, a.mapR (Yd []) = a := by
  intro a
  have e : Yd [] = fun r _ => some r := by funext r p; simp [Yd]
  rw [e]; exact Ai0 a
 induction σ with
 | nil => rfl
 | cons e r ih => obtain ⟨k, a⟩ := e; simp [F4, ih, key]
theorem Qz {P : Program} {o : AOp} {ds : List Nat} {σ : St} {K : St → Prop} (h : P5 P o ds σ K) : Jw P o (fun σ' => K (F4 ds σ')) σ := by
 unfold P5 at h
 split at h
 ·refine G2 (fun σ' hk => ?_) (Yf h)
  rw [Ajr]; exact hk
 split at h
 case h_3 => exact h.elim
 ·obtain ⟨ys, σ1, hy, hk⟩ := Ais h
  obtain ⟨v, σ2, hX, hk⟩ := K7 hk
  split at hk
  case h_2 => exact hk.elim
  split at hk
  case h_2 => exact hk.elim
  split at hk
  case h_2 => exact hk.elim
  rename_i hm
  have hm' := Nat.eq_of_beq_eq_true hm
  obtain ⟨h1, h2, h3⟩ := hk.h
  rw [A1] at h3
  simp only [Jw, Ox, N4, So, Bt, Aji, hy, hX, hm', h1, h2]
  simpa using h3
 split at h
 case h_2 => exact h.elim
 rename_i hh hn
 obtain ⟨v, σ2, hX, hk⟩ := K7 h
 split at hk
 case h_2 => exact hk.elim
 split at hk
 case h_2 => exact hk.elim
 split at hk
 case h_2 => exact hk.elim
 rename_i hm
 have hm' := Nat.eq_of_beq_eq_true hm
 obtain ⟨_, h1, h2, h3⟩ := hk.h
 rw [A1] at h3
 simp only [Jw, Ox, N4, So, Bt, Amf, hn, hX, hm', h1, h2, and_self, if_true]
 simpa using h3
structure Two (X Y : Prop) : Prop where
 h : X ∧ Y
def Y8 (P : Program) (A : List (Nat × AOp)) (K : St → Prop) (pl : LPlan) : Bool → St → Prop :=
 LPlan.rec (motive := fun _ => Bool → St → Prop) (fun b σ => match b with
  | true => K σ
  | false => True) (fun _ x xs ds _ ot ihn iho _ σ => match ot with
    | .nil => Xx xs σ (P5 P x ds σ (ihn true)) A
    | .alt .. => Two (Xx xs σ (P5 P x ds σ (ihn true)) A) (iho false σ)) pl
theorem Zw : ∀ {A : List (Nat × AOp)} {K : St → Prop} {σ}, Ab2 A K σ → Gp A K σ := by
 intro A
 induction A with
 | nil => intro K σ h; exact h
 | cons e r ih =>
   intro K σ h
   obtain ⟨i, x⟩ := e
   have h' : Vf x σ fun d a => match Q5 a with
    | true => Bn (A3 d a σ) (Ab2 r K)
    | false => False := h
   obtain ⟨d, a, h1, h2⟩ := K0 h'
   simp only [Gp, h1]
   split at h2
   ·rename_i hu
    rw [A1] at h2
    exact ⟨hu, ih h2⟩
   ·exact h2.elim
theorem V1 {xs : List Nat} {σ : St} {K : Prop} : ∀ {A : List (Nat × AOp)}, Xx xs σ K A → Agt A xs σ ∧ K := by
 intro A
 induction A with
 | nil => intro h; exact ⟨(fun e he => by cases he), h⟩
 | cons e r ih =>
   intro h
   change (match xs.contains e.1 with
    | true => Vf e.2 σ fun d a => match Af6 a d σ with
      | true => SameQ (look σ d) a (Xx xs σ K r)
      | false => False
    | false => Xx xs σ K r) at h
   split at h
   ·obtain ⟨d, a, h1, h2⟩ := K0 h
    split at h2
    ·rename_i hu
     obtain ⟨h3, h4⟩ := h2.h
     obtain ⟨h5, h6⟩ := ih h4
     refine ⟨fun f hf hx => ?_, h6⟩
     rcases List.mem_cons.1 hf with rfl | hf
     ·exact ⟨d, a, h1, h3, hu⟩
     ·exact h5 f hf hx
    ·exact h2.elim
   ·rename_i hx
    obtain ⟨h5, h6⟩ := ih h
    refine ⟨fun f hf hx2 => ?_, h6⟩
    rcases List.mem_cons.1 hf with rfl | hf
    ·rw [hx] at hx2; cases hx2
    ·exact h5 f hf hx2
theorem Adr {P : Program} {A : List (Nat × AOp)} {K : St → Prop} : ∀ {pl : LPlan} {b : Bool} {σ}, Y8 P A K pl b σ → I5 P A K pl b σ := by
 intro pl
 induction pl with
 | nil => intro b σ h hb; subst hb; exact h
 | alt i x xs ds nx ot ih1 ih2 =>
   intro b σ h
   cases ot with
   | nil =>
     change Xx xs σ (P5 P x ds σ (Y8 P A K nx true)) A at h
     obtain ⟨h1, h2⟩ := V1 h
     exact ⟨⟨h1, G2 (fun _ => ih1) (Qz h2)⟩, fun hb => by cases hb⟩
   | alt j y ys es ny oy =>
     change Two (Xx xs σ (P5 P x ds σ (Y8 P A K nx true)) A) (Y8 P A K (.alt j y ys es ny oy) false σ) at h
     obtain ⟨h1, h2⟩ := V1 h.h.1
     exact ⟨⟨h1, G2 (fun _ => ih1) (Qz h2)⟩, ih2 h.h.2⟩
structure FrzQ (T : V) (n : Nat) (K : V → Prop) : Prop where
 h : ∃ T', T.fzAt n = T' ∧ K T'
def Ak7 : List Nat → (St → Prop) → St → Prop
 | [], K, σ => K σ
 | e :: r, K, σ => match look σ (e % 100000) with
   | .val T => FrzQ T (e / 100000) fun T' => Bn (A3 (e % 100000) (.val T') (A3 (e % 100000) .top σ)) (Ak7 r K)
   | _ => Ak7 r K σ
theorem Aha : ∀ {ss : List Nat} {K : St → Prop} {σ : St}, Ak7 ss K σ → K (Ald ss σ) := by
 intro ss
 induction ss with
 | nil => intro K σ h; exact h
 | cons e r ih =>
   intro K σ h
   simp only [Ak7] at h
   simp only [Ald, Ahi]
   split at h
   ·rename_i T hT
    obtain ⟨T', h1, h2⟩ := h.h
    subst h1
    rw [A1] at h2
    simp only [hT]
    exact ih h2
   ·rename_i hne
    have := ih h
    split
    ·rename_i T hT; exact absurd hT (hne T)
    ·exact this
structure LoopQ (P : Program) (c : ACode) (Q : Ex → St → Prop) (σ : St) : Prop where
 h : awp P (.loop c) Q σ
structure CutQ (P : Program) (c : ACode) (Q : Ex → St → Prop) (σ : St) : Prop where
 h : awp P (.cut c) Q σ
def vc (P : Program) : ACode → (Ex → St → Prop) → St → Prop
 | .skip, Q, σ => Q .normal σ
 | .reg gs, Q, σ => Kp P gs (Q .normal) σ
 | .dreg pre post, Q, σ => Abo P (K6 pre) σ pre [] [] [] (Kp P post (Q .normal))
 | .dregp n0 ds pre post, Q, σ => Kp P ((pre.take n0).map (·.1)) (fun σ1 => match Sw n0 (F4 ds σ1) with
   | true => Bn (F4 ds σ1) fun σ2 => Bn (Nv n0) fun acc => Abo P (K6 pre) σ2 (pre.drop n0) acc [] [] (Kp P post (Q .normal))
   | false => False) σ
 | .seq a b, Q, σ => vc P a (Q7 (vc P b Q) Q) σ
 | .cond x t e, Q, σ => match Aj σ x with
   | .val (.bool b) => Br b (Bn (Aot x true σ) (vc P t Q)) (Bn (Aot x false σ) (vc P e Q))
   | _ => False
 | .block i c, Q, σ => vc P c (Adq i Q) σ
 | .loop c, Q, σ => LoopQ P c Q σ
 | .exit i, Q, σ => Q (.exit i) σ
 | .ret, Q, σ => Q .ret σ
 | .drop ds c, Q, σ => Bn (F4 ds σ) (vc P c Q)
 | .cut c, Q, σ => CutQ P c Q σ
 | .dregl A pl, Q, σ => Ab2 A (Y8 P A (Q .normal) pl true) σ
 | .frz ss c, Q, σ => Ak7 ss (vc P c Q) σ
theorem Aiv {x : X} {b : Bool} {σ : St} (h : Aj σ x = .val (.bool b)) : Aot x b σ = σ := by
 cases x with
 | c v => rfl
 | t s =>
   refine Kc ?_
   simp only [Aj] at h
   split at h
   ·rename_i v hv
    split at h
    ·cases h
    ·rw [hv]; exact h
   ·exact h
theorem O4 {P : Program} : ∀ {c : ACode} {Q : Ex → St → Prop} {σ : St}, vc P c Q σ → awp P c Q σ := by
 intro c
 induction c with
 | skip => intro Q σ h; exact h
 | reg gs => intro Q σ h; exact Li h
 | dreg pre post => intro Q σ h; exact Lj (fun _ => Li) (Vm rfl rfl (by simp) h)
 | dregp n0 ds pre post =>
   intro Q σ h
   refine Jc (fun σ1 h1 => ?_) (Li h)
   split at h1
   ·rename_i hd
    rw [A1, A1] at h1
    refine ⟨hd, Lj (fun _ => Li) (Vm (by simp) (by simp) (by simp) h1)⟩
   ·exact h1.elim
 | seq a b ih1 ih2 =>
   intro Q σ h
   have h' : vc P a (Q7 (vc P b Q) Q) σ := h
   show awp P a (Q7 (awp P b Q) Q) σ
   exact Ki (Q := Q7 (vc P b Q) Q) (Ih (fun _ hh => ih2 hh) fun _ _ => id) (ih1 h')
 | cond x t e ih1 ih2 =>
   intro Q σ h
   simp only [vc] at h
   simp only [awp]
   split at h
   ·rename_i b hb
    simp only [hb]
    refine ⟨fun e => ?_, fun e => ?_⟩
    ·subst e
     have := h.t rfl
     rw [A1, Aiv hb] at this
     exact ih1 this
    ·subst e
     have := h.f rfl
     rw [A1, Aiv hb] at this
     exact ih2 this
   ·exact h.elim
 | block i c ih => intro Q σ h; exact ih h
 | loop c ih => intro Q σ h; exact h.h
 | exit i => intro Q σ h; exact h
 | ret => intro Q σ h; exact h
 | drop ds c ih => intro Q σ h; simp only [vc] at h; rw [A1] at h; exact ih h
 | cut c ih => intro Q σ h; exact h.h
 | frz ss c ih => intro Q σ h; simp only [vc] at h; exact ih (Aha h)
 | dregl A R => intro Q σ h; exact Q3 (fun _ => Adr) (Zw h)
theorem Acm {P : Program} {f N : Nat} {ac : ACode} {rs : List RS} {args : List V} {R : V → List V → Prop} (hf : Bd P f N ac rs = true) (hn : args.length ≤ N)
  (h : vc P ac (Ajo N rs args R) (entry N 0 args)) : Tri P f args R := Aln hf hn (O4 h)
def Aoh {α : Type} (ks : List Nat) (st : α → St) (inv : α → Prop) (μ : α → Nat) (a : α) (σ : St) : Prop := ∃ b, restrict ks σ = st b ∧ inv b ∧ μ b < μ a
theorem LoopQ.by {α : Type} {P : Program} {c : ACode} {Q : Ex → St → Prop} {σ : St} (ks : List Nat) (st : α → St) (inv : α → Prop) (μ : α → Nat) (a0 : α) (h0 : restrict ks σ = st a0) (hi : inv a0)
  (hr : ∀ a, inv a → vc P c (Q7 (Aoh ks st inv μ a) Q) (st a)) : LoopQ P c Q σ := by
 refine ⟨Ala ks (fun n σ => ∃ a, σ = st a ∧ inv a ∧ n = μ a) (μ a0) ⟨a0, h0, hi, rfl⟩ ?_⟩
 rintro n σ ⟨a, rfl, ha, rfl⟩
 refine Ki (Ih ?_ fun _ _ => .inl) (O4 (hr a ha))
 rintro σ' ⟨b, h1, h2, h3⟩
 exact ⟨μ b, h3, b, h1, h2, rfl⟩
def Ret (P : Program) (f : Nat) (vs : List V) (v : V) : Prop := Tri P f vs (fun r _ => r = v)
theorem Bf {P : Program} {f N : Nat} {ac : ACode} {rs : List RS} {args : List V} {v : V} (hf : Bd P f N ac rs = true) (hn : args.length ≤ N)
  (h : vc P ac (Ajo N rs args fun r _ => r = v) (entry N 0 args)) : Ret P f args v := Acm hf hn h
abbrev Ae (n : Int) : V := .int .i64 n
end Go.Proofs.Ytjinhobffbppbaa.Ax
namespace Go.Proofs.Ytjinhobffbppbaa.Ax
open Go
noncomputable def ask {α : Type} (p : Prop) (x : Option α) : Option α := @ite _ p (Classical.propDecidable p) x none
def nth {α : Type} [Inhabited α] (xs : List α) (i : Nat) : α := xs.getD i default
theorem Bz {α : Type} {p : Prop} {x : Option α} {v : α} : ask p x = some v ↔ p ∧ x = some v := by
 unfold ask; split <;> simp_all
theorem Af {α : Type} {p : Prop} {x : Option α} (h : p) : ask p x = x := by unfold ask; rw [if_pos h]
def V9 {σ τ : Type} (body : σ → Option (σ ⊕ τ)) : Nat → σ → Option τ
 | 0, _ => none
 | n + 1, s => match body s with
   | none => none
   | some (.inl s') => V9 body n s'
   | some (.inr t) => some t
theorem Aip {σ τ : Type} {body : σ → Option (σ ⊕ τ)} : ∀ {n m : Nat} {s : σ} {t : τ}, n ≤ m → V9 body n s = some t → V9 body m s = some t := by
 intro n
 induction n with
 | zero => intro m s t _ h; cases h
 | succ n ih =>
   intro m s t hm h
   match m, hm with
   | m + 1, hm =>
     simp only [V9] at h ⊢
     split at h
     ·cases h
     ·exact ih (by omega) h
     ·exact h
open Classical in
noncomputable def Bb {σ τ : Type} (body : σ → Option (σ ⊕ τ)) (s : σ) : Option τ := if h : ∃ t n, V9 body n s = some t then some (Classical.choose h) else none
theorem Id {σ τ : Type} {body : σ → Option (σ ⊕ τ)} {s : σ} {t : τ} : Bb body s = some t ↔ ∃ n, V9 body n s = some t := by
 unfold Bb
 constructor
 ·intro h
  split at h
  ·rename_i hx
   cases h
   exact Classical.choose_spec hx
  cases h
 rintro ⟨n, hn⟩
 rw [dif_pos ⟨t, n, hn⟩]
 obtain ⟨m, hm⟩ := Classical.choose_spec (⟨t, n, hn⟩ : ∃ t n, V9 body n s = some t)
 have h1 := Aip (Nat.le_max_left n m) hn
 have h2 := Aip (Nat.le_max_right n m) hm
 rw [h1] at h2
 exact h2.symm
theorem Afo {σ τ : Type} (body : σ → Option (σ ⊕ τ)) (s : σ) : Bb body s = (match body s with
  | none => none
  | some (.inl s') => Bb body s'
  | some (.inr t) => some t) := by
 apply Option.ext
 intro t
 rw [Id]
 constructor
 ·rintro ⟨n, hn⟩
  cases n with
  | zero => cases hn
  | succ n =>
    simp only [V9] at hn
    split at hn
    ·cases hn
    ·exact Id.2 ⟨n, hn⟩
    ·exact hn
 intro h
 split at h
 ·cases h
 ·rename_i s' e
  obtain ⟨n, hn⟩ := Id.1 h
  exact ⟨n + 1, by simp only [V9, e]; exact hn⟩
 rename_i t' e
 exact ⟨1, by simp only [V9, e]; exact h⟩
def upO {α : Type} (f : Nat → Option α) : Prop := ∀ n m v, n ≤ m → f n = some v → f m = some v
open Classical in
noncomputable def Oh {α : Type} (f : Nat → Option α) : Option α := if h : ∃ v n, f n = some v then some (Classical.choose h) else none
theorem U3 {α : Type} {f : Nat → Option α} {v : α} (h : Oh f = some v) : ∃ n, f n = some v := by
 unfold Oh at h
 split at h
 ·rename_i hx
  cases h
  exact Classical.choose_spec hx
 cases h
theorem Adb {α : Type} {f : Nat → Option α} (hu : upO f) {v : α} {n : Nat} (h : f n = some v) : Oh f = some v := by
 unfold Oh
 rw [dif_pos ⟨v, n, h⟩]
 obtain ⟨m, hm⟩ := Classical.choose_spec (⟨v, n, h⟩ : ∃ v n, f n = some v)
 have h1 := hu _ _ _ (Nat.le_max_left n m) h
 have h2 := hu _ _ _ (Nat.le_max_right n m) hm
 rw [h1] at h2
 exact h2.symm
abbrev Au (α : Type) : List α := []
abbrev slr {α : Type} (o : Bool) (m : Nat) (f : α → V) (xs : List α) : V := .sl o m (xs.map f)
class Fz {α : Type} (f : α → V) (g : outParam (α → V)) : Prop where
 eq : ∀ x, (f x).fz = g x
instance {k : IntKind} : Fz (V.int k) (V.int k) := ⟨fun _ => rfl⟩
instance : Fz Ae Ae := ⟨fun _ => rfl⟩
instance : Fz V.bool V.bool := ⟨fun _ => rfl⟩
instance : Fz V.str V.str := ⟨fun _ => rfl⟩
theorem Ab {α : Type} (f : α → V) {g : α → V} [Fz f g] (xs : List α) : fzL (xs.map f) = xs.map g := by
 induction xs with
 | nil => rfl
 | cons x r ih => simp [fzL, Fz.eq, ih]
instance {α : Type} (m : Nat) (f g : α → V) [Fz f g] : Fz (slr true m f) (slr false m g) := ⟨fun x => by simp [slr, V.fz, Ab]⟩
instance {α : Type} (m : Nat) (f : α → V) : Fz (slr false m f) (slr false m f) := ⟨fun x => by simp [slr, V.fz]⟩
theorem Ac {α : Type} (m : Nat) (f : α → V) {g : α → V} [Fz f g] (xs : List α) : V.fz (.sl true m (xs.map f)) = .sl false m (xs.map g) := by simp [V.fz, Ab]
theorem Ad {α : Type} (f : α → V) {g : α → V} [Fz f g] (x : α) : V.fz (f x) = g x := Fz.eq x
abbrev rA2 {α : Type} (f : α → V) (p : α × α) : V := .agg [f p.1, f p.2]
abbrev rA3 {α : Type} (f : α → V) (p : α × α × α) : V := .agg [f p.1, f p.2.1, f p.2.2]
abbrev rP {α : Type} (o : Bool) (f : α → V) (x : α) : V := .ptr o (f x)
abbrev rO {α : Type} (o : Bool) (f : α → V) : Option α → V
 | none => .nilp
 | some x => .ptr o (f x)
instance {α : Type} (f g : α → V) [Fz f g] : Fz (rP true f) (rP false g) := ⟨fun x => by simp [V.fz, Fz.eq]⟩
instance {α : Type} (f g : α → V) [Fz f g] : Fz (rO true f) (rO false g) := ⟨fun x => by cases x <;> simp [rO, V.fz, Fz.eq]⟩
instance {α : Type} (f g : α → V) [Fz f g] : Fz (rA2 f) (rA2 g) := ⟨fun x => by simp [V.fz, fzL, Fz.eq]⟩
instance {α : Type} (f g : α → V) [Fz f g] : Fz (rA3 f) (rA3 g) := ⟨fun x => by simp [V.fz, fzL, Fz.eq]⟩
def One {α : Type} (f : α → V) : Prop := ∀ x, (f x).cells = [f x] ∧ (f x).isAgg = false
def O8 {α : Type} (m : Nat) (f : α → V) : Prop := ∀ x, (f x).cells.length = m ∧ Ck (f x).cells = true
section
variable {α ρ : Type} {v : ρ} {x y : Option ρ} {X Y : Prop}
theorem Br.od {p : Prop} [Decidable p] (h : (if p then x else y) = some v) (h1 : p → x = some v → X) (h2 : ¬ p → y = some v → Y) : Br (decide p) X Y := by
 by_cases hp : p
 ·rw [if_pos hp] at h; exact ⟨fun _ => h1 hp h, fun e => absurd hp (of_decide_eq_false e)⟩
 rw [if_neg hp] at h; exact ⟨fun e => absurd (of_decide_eq_true e) hp, fun _ => h2 hp h⟩
theorem Br.oe {a b : Int} (h : (if a = b then x else y) = some v) (h1 : a = b → x = some v → X) (h2 : ¬ a = b → y = some v → Y) : Br (a == b) X Y := by
 have : (a == b) = decide (a = b) := by rw [Bool.eq_iff_iff]; simp
 rw [this]; exact Br.od h h1 h2
theorem Br.on {a b : Int} (h : (if a ≠ b then x else y) = some v) (h1 : a ≠ b → x = some v → X) (h2 : ¬ a ≠ b → y = some v → Y) : Br (a != b) X Y := by
 have : (a != b) = decide (a ≠ b) := by rw [Bool.eq_iff_iff]; simp
 rw [this]; exact Br.od h h1 h2
theorem Br.ob {b : Bool} (h : (if b = true then x else y) = some v) (h1 : b = true → x = some v → X) (h2 : ¬ b = true → y = some v → Y) : Br b X Y := by
 cases b
 ·exact ⟨fun e => Bool.noConfusion e, fun _ => h2 (by simp) (by simpa using h)⟩
 exact ⟨fun _ => h1 rfl (by simpa using h), fun e => Bool.noConfusion e⟩
theorem Br.flip {b : Bool} (h : Br b Y X) : Br (!b) X Y := by
 cases b
 ·exact ⟨fun _ => h.f rfl, fun e => Bool.noConfusion e⟩
 exact ⟨fun e => Bool.noConfusion e, fun _ => h.t rfl⟩
theorem Ask.o {p : Prop} (h : ask p x = some v) (hk : p → x = some v → X) : Ask p X := by
 obtain ⟨h1, h2⟩ := Bz.1 h
 exact ⟨h1, hk h1 h2⟩
theorem Idx.o {j : Int} {lo n : Nat} {K : Int → Prop} (h : (if j = lo then x else y) = some v) (h1 : x = some v → K lo) (h2 : y = some v → Idx j (lo + 1) n K) : Idx j lo n K := by
 refine ⟨fun a b => ?_⟩
 by_cases hj : j = lo
 ·rw [if_pos hj] at h; rw [hj]; exact h1 h
 rw [if_neg hj] at h; exact (h2 h).h (by omega) b
theorem Idx.lit {j : Int} {lo n : Nat} {K : Int → Prop} (h : K j) : Idx j lo n K := ⟨fun _ _ => h⟩
theorem Len.nil {K : Nat → Prop} (h : K 0) : Len [] K := ⟨h⟩
theorem Len.cons {u : V} {us : List V} {K : Nat → Prop} (h : Len us fun n => K (n + 1)) : Len (u :: us) K := ⟨h.h⟩
variable {f : α → V}
theorem Amz [Inhabited α] (f : α → V) {xs : List α} {j : Nat} (hj : j < xs.length) : (xs.map f).getD j .dead = f (nth xs j) := by
 simp [List.getD_eq_getElem?_getD, nth, hj]
theorem Elem.o [Inhabited α] {xs : List α} {j : Nat} {K : V → Prop} (hj : j < xs.length) (hk : K (f (nth xs j))) : Elem (xs.map f) j K := ⟨by rw [Amz f hj]; exact hk⟩
theorem Sg (hf : One f) (xs : List α) : Bg (xs.map f) = xs.map f := by
 induction xs with
 | nil => rfl
 | cons x r ih => simp only [List.map_cons, Bg, (hf x).1, ih]; rfl
theorem Al0 [Inhabited α] (f : α → V) {xs : List α} {c : Nat} (hc : c < xs.length) : (xs.map f).drop c = f (nth xs c) :: (xs.map f).drop (c + 1) := by
 rw [List.drop_eq_getElem_cons (by simpa using hc)]
 simp [nth, List.getD_eq_getElem?_getD, hc]
theorem Cells.one [Inhabited α] (hf : One f) {xs : List α} {c : Nat} {K : List V → Prop} (hc : c < xs.length) (hk : K [f (nth xs c)]) : Cells (Bg (xs.map f)) c 1 K := by
 refine ⟨_, ?_, ?_, hk⟩
 ·rw [Sg hf, List.length_map]; exact hc
 rw [Sg hf, Al0 f hc]; rfl
theorem Abm [Inhabited α] {m : Nat} (hf : O8 m f) : ∀ {xs : List α} {i : Nat}, i < xs.length → ∃ l r, Bg (xs.map f) = l ++ ((f (nth xs i)).cells ++ r) ∧ l.length = i * m := by
 intro xs
 induction xs with
 | nil => intro i h; simp at h
 | cons x t ih =>
   intro i h
   cases i with
   | zero => exact ⟨[], Bg (t.map f), rfl, by simp⟩
   | succ i =>
     obtain ⟨l, r, e, hl⟩ := ih (i := i) (by simpa using h)
     refine ⟨(f x).cells ++ l, r, by simp only [List.map_cons, Bg, e, List.append_assoc]; rfl, ?_⟩
     rw [List.length_append, (hf x).1, hl, Nat.succ_mul]; omega
theorem Cells.wide [Inhabited α] {m : Nat} (hf : O8 m f) {xs : List α} {i off n : Nat} {K : List V → Prop} (hi : i < xs.length) (hn : off + n ≤ m) (hk : K (((f (nth xs i)).cells.drop off).take n)) :
  Cells (Bg (xs.map f)) (A5 i m + off) n K := by
 obtain ⟨l, r, e, hl⟩ := Abm hf hi
 have hw := (hf (nth xs i)).1
 refine ⟨_, ?_, ?_, hk⟩
 ·rw [e, K9, List.length_append, List.length_append, hl, hw]; omega
 rw [e, K9, ← hl, ← List.drop_drop, List.drop_left, List.drop_append_of_le_length (by omega), List.take_append_of_le_length (by simp; omega)]
theorem Cells.lit {xs us : List V} {c n : Nat} {K : List V → Prop} (h : Nat.ble (c + n) xs.length = true) (e : (xs.drop c).take n = us) (hk : K us) : Cells xs c n K := ⟨us, Nat.le_of_ble_eq_true h, e, hk⟩
theorem Kid.one [Inhabited α] (hf : One f) {m : Nat} {xs : List α} {c : Nat} {K : V → Prop} (hc : c < xs.length) (hk : K (f (nth xs c))) : Kid (.sl true m (xs.map f)) c K :=
 ⟨_, rfl, by simp only [V.kids, Sg hf]; simp [nth, List.getD_eq_getElem?_getD, hc], hk⟩
theorem Kid.wide [Inhabited α] {m : Nat} (hf : O8 m f) {xs : List α} {i off : Nat} {u : V} {K : V → Prop} (hi : i < xs.length) (hu : (f (nth xs i)).cells[off]? = some u) (hk : K u) : Kid (.sl true m (xs.map f)) (A5 i m + off) K := by
 obtain ⟨l, r, e, hl⟩ := Abm hf hi
 refine ⟨u, rfl, ?_, hk⟩
 have ho : off < (f (nth xs i)).cells.length := (List.getElem?_eq_some_iff.1 hu).1
 simp only [V.kids, e]
 rw [K9, List.getElem?_append_right (by omega), hl, Nat.add_sub_cancel_left, List.getElem?_append_left ho, hu]
theorem Kid.lit {T k : V} {c : Nat} {K : V → Prop} (h1 : T.stepOk = true) (h2 : T.kids[c]? = some k) (hk : K k) : Kid T c K := ⟨k, h1, h2, hk⟩
theorem Ai9 (hf : One f) : ∀ {xs : List α} {c : Nat} (w : α), c < xs.length → Jf (xs.map f) c [f w] = some ((xs.set c w).map f) := by
 intro xs
 induction xs with
 | nil => intro c w h; simp at h
 | cons x r ih =>
   intro c w h
   have hlen : (f x).cells.length = 1 := by rw [(hf x).1]; rfl
   simp only [List.map_cons, Jf, hlen]
   cases c with
   | zero =>
     have : (f x).setCells 0 [f w] = some (f w) := by
      have hx := (hf x).2
      have hv := (hf w).2
      unfold V.setCells
      split
      ·simp_all [V.isAgg]
      ·simp [Yp, hv]
     simp [this]
   | succ c =>
     have := ih (c := c) w (by simpa using h)
     simp [this]
theorem Ahm (hf : One f) : ∀ {xs : List α} {c : Nat} (w : α), c < xs.length → Jf ((xs.map f).set c .dead) c [f w] = some ((xs.set c w).map f) := by
 intro xs
 induction xs with
 | nil => intro c w h; simp at h
 | cons x r ih =>
   intro c w h
   have hlen : (f x).cells.length = 1 := by rw [(hf x).1]; rfl
   cases c with
   | zero =>
     simp only [List.map_cons, List.set_cons_zero, Jf]
     simp [V.cells, V.setCells, Yp, (hf w).2]
   | succ c =>
     have := ih (c := c) w (by simpa using h)
     simp [Jf, hlen, this]
theorem SetKids.fill (hf : One f) {o : Bool} {m : Nat} {xs : List α} {c : Nat} {us : List V} {K : V → Prop} (w : α) (e : us = [f w]) (hc : c < xs.length) (hk : K (.sl o m ((xs.set c w).map f))) : SetKids (.sl o m (Anv f xs c)) c us K := by
 subst e
 exact ⟨_, by simp only [V.setKids, Anv, Ahm hf w hc, Option.map_some], hk⟩
theorem SetKids.one (hf : One f) {o : Bool} {m : Nat} {xs : List α} {c : Nat} {us : List V} {K : V → Prop} (w : α) (e : us = [f w]) (hc : c < xs.length) (hk : K (.sl o m ((xs.set c w).map f))) : SetKids (.sl o m (xs.map f)) c us K := by
 subst e
 exact ⟨_, by simp only [V.setKids, Ai9 hf w hc, Option.map_some], hk⟩
theorem Ag3 [Inhabited α] {m : Nat} (hf : O8 m f) : ∀ {xs : List α} {i off : Nat} {us : List V} (w : α), i < xs.length → (f (nth xs i)).setCells off us = some (f w) → off < m → Jf (xs.map f) (i * m + off) us = some ((xs.set i w).map f) := by
 intro xs
 induction xs with
 | nil => intro i off us w h; simp at h
 | cons x r ih =>
   intro i off us w h hs ho
   simp only [List.map_cons, Jf, (hf x).1]
   cases i with
   | zero =>
     have hs' : (f x).setCells off us = some (f w) := hs
     simp [ho, hs']
   | succ i =>
     have := ih (i := i) (off := off) (us := us) w (by simpa using h) hs ho
     rw [if_neg (by rw [Nat.succ_mul]; omega), show (i + 1) * m + off - m = i * m + off by rw [Nat.succ_mul]; omega, this]
     simp
theorem SetKids.wide [Inhabited α] {m : Nat} (hf : O8 m f) {o : Bool} {xs : List α} {i off : Nat} {us : List V} {K : V → Prop} (w : α) (hi : i < xs.length) (hs : (f (nth xs i)).setCells off us = some (f w)) (ho : off < m) (hk : K (.sl o m ((xs.set i w).map f))) :
  SetKids (.sl o m (xs.map f)) (A5 i m + off) us K :=
 ⟨_, by simp only [V.setKids, K9, Ag3 hf w hi hs ho, Option.map_some], hk⟩
theorem Ae6 [Inhabited α] {m : Nat} (hf : O8 m f) : ∀ {xs : List α} {i off : Nat} {us : List V} {v : V}, i < xs.length → (f (nth xs i)).setCells off us = some v → off < m → Jf (xs.map f) (i * m + off) us = some (holeW f xs i v) := by
 intro xs
 induction xs with
 | nil => intro i off us v h; simp at h
 | cons x r ih =>
   intro i off us v h hs ho
   simp only [List.map_cons, Jf, (hf x).1, holeW]
   cases i with
   | zero =>
     have hs' : (f x).setCells off us = some v := hs
     simp [ho, hs']
   | succ i =>
     have := ih (i := i) (off := off) (us := us) (v := v) (by simpa using h) hs ho
     rw [if_neg (by rw [Nat.succ_mul]; omega), show (i + 1) * m + off - m = i * m + off by rw [Nat.succ_mul]; omega, this]
     simp [holeW]
theorem Aea {m : Nat} (hf : O8 m f) : ∀ {xs : List α} {i off : Nat} {us : List V} {v : V} (w : α), i < xs.length → v.cells.length = m → v.setCells off us = some (f w) → off < m → Jf (holeW f xs i v) (i * m + off) us = some ((xs.set i w).map f) := by
 intro xs
 induction xs with
 | nil => intro i off us v w h; simp at h
 | cons x r ih =>
   intro i off us v w h hv hs ho
   cases i with
   | zero => simp [holeW, Jf, hv, ho, hs]
   | succ i =>
     have := ih (i := i) (off := off) (us := us) (v := v) w (by simpa using h) hv hs ho
     simp only [holeW, List.map_cons, List.set_cons_succ, Jf, (hf x).1] at this ⊢
     rw [if_neg (by rw [Nat.succ_mul]; omega), show (i + 1) * m + off - m = i * m + off by rw [Nat.succ_mul]; omega, this]
     simp
theorem Len.holeW {xs : List α} {i : Nat} {v : V} {K : Nat → Prop} (h : K xs.length) : Len (holeW f xs i v) K := ⟨by simp only [Ax.holeW, List.length_set, List.length_map]; exact h⟩
theorem SetKids.mkholeW [Inhabited α] {m : Nat} (hf : O8 m f) {o : Bool} {xs : List α} {i off : Nat} {us : List V} {K : V → Prop} (v : V) (hi : i < xs.length) (hs : (f (nth xs i)).setCells off us = some v) (ho : off < m) (hk : K (.sl o m (holeW f xs i v))) :
  SetKids (.sl o m (xs.map f)) (A5 i m + off) us K :=
 ⟨_, by simp only [V.setKids, K9, Ae6 hf hi hs ho, Option.map_some], hk⟩
theorem SetKids.fillW {m : Nat} (hf : O8 m f) {o : Bool} {xs : List α} {i off : Nat} {us : List V} {v : V} {K : V → Prop} (w : α) (hi : i < xs.length) (hv : v.cells.length = m) (hs : v.setCells off us = some (f w)) (ho : off < m) (hk : K (.sl o m ((xs.set i w).map f))) :
  SetKids (.sl o m (holeW f xs i v)) (A5 i m + off) us K :=
 ⟨_, by simp only [V.setKids, K9, Aea hf w hi hv hs ho, Option.map_some], hk⟩
theorem SetKids.lit {T T' : V} {c : Nat} {us : List V} {K : V → Prop} (h : T.setKids c us = some T') (hk : K T') : SetKids T c us K := ⟨T', h, hk⟩
theorem MkQ.o {d n : Nat} {z : V} {K : List V → Prop} (f : α → V) (w : α) (e : z = f w) (hk : K ((List.replicate n w).map f)) : MkQ d n z K := ⟨by rw [e, ← List.map_replicate]; exact hk⟩
theorem Agw {m : Nat} (hf : O8 m f) (ws : List α) : L3 m (ws.map f) = true := by
 induction ws with
 | nil => rfl
 | cons w r ih => simp [L3, (hf w).1, (hf w).2, ih]
theorem BslQ.o {d m : Nat} {us : List V} {K : List V → Prop} (f : α → V) (ws : List α) (hf : O8 m f) (e : us = ws.map f) (hk : K (ws.map f)) : BslQ d m us K := by
 subst e; exact ⟨Agw hf ws, hk⟩
theorem BslQ.lit {d m : Nat} {us : List V} {K : List V → Prop} (e : L3 m us = true) (hk : K us) : BslQ d m us K := ⟨e, hk⟩
theorem Acx {m : Nat} (hf : O8 m f) (ws : List α) : Ck (Bg (ws.map f)) = true := by
 induction ws with
 | nil => rfl
 | cons w r ih =>
   have := (hf w).2
   simp only [Ck, List.map_cons, Bg, List.all_append, Bool.and_eq_true] at this ih ⊢
   exact ⟨this, ih⟩
theorem AppQ.o {m d : Nat} {us vs : List V} {K : List V → Prop} (f : α → V) (hf : O8 m f) (xs ys : List α) (ex : us = xs.map f) (ey : vs = ys.map f) (h : ask (xs.length + ys.length ≤ LIM) x = some v) (hk : x = some v → K ((xs ++ ys).map f)) : AppQ d us vs K := by
 subst ex; subst ey
 obtain ⟨h1, h2⟩ := Bz.1 h
 exact ⟨Acx hf ys, by simpa using h1, by rw [← List.map_append]; exact hk h2⟩
theorem V8 (hf : ∀ x, A7 (f x).cells = false) (ws : List α) : A7 (Bg (ws.map f)) = false := by
 induction ws with
 | nil => rfl
 | cons w r ih => simp only [List.map_cons, Bg, Eo, hf w, ih]; rfl
theorem SlcQ.o {l h : Int} {xs : List α} {K : List V → Prop} (f : α → V) (hh : ask (0 ≤ l ∧ l ≤ h ∧ h ≤ (xs.length : Int)) x = some v) (hk : x = some v → K (((xs.drop l.toNat).take (h.toNat - l.toNat)).map f)) : SlcQ (xs.map f) l h K := by
 obtain ⟨⟨h1, h2, h3⟩, h4⟩ := Bz.1 hh
 exact ⟨h1, h2, by simpa using h3, by rw [← List.map_drop, ← List.map_take]; exact hk h4⟩
theorem NoOwn.o (hf : ∀ x, A7 (f x).cells = false) {ws : List α} (h : X) : NoOwn (ws.map f) X Y := ⟨.inl ⟨V8 hf ws, h⟩⟩
theorem NoOwn.lit {us : List V} (e : A7 (Bg us) = false) (h : X) : NoOwn us X Y := ⟨.inl ⟨e, h⟩⟩
theorem NoOwn.own {us : List V} (e : A7 (Bg us) = true) (h : Y) : NoOwn us X Y := ⟨.inr ⟨e, h⟩⟩
end
def Og (P : Program) (f : Nat) (vs : List V) (v : V) (k : Nat) (u : V) : Prop := Tri P f vs (fun r o => r = v ∧ o[k]? = some u)
theorem Nm {P : Program} {f N : Nat} {ac : ACode} {rs : List RS} {args : List V} {v u : V} {k : Nat} (hf : Bd P f N ac rs = true) (hn : args.length ≤ N)
  (h : vc P ac (Ajo N rs args fun r o => r = v ∧ o[k]? = some u) (entry N 0 args)) : Og P f args v k u := Acm hf hn h
theorem Tri.freeze {P : Program} {f : Nat} {args : List V} {R : V → List V → Prop} (h : Tri P f args fun r o => R r.fz o) : Tri P f args R := by
 intro w O vals fp h1 h2
 obtain ⟨h3, h4⟩ := h w O vals fp h1 h2
 refine ⟨h3, h4.mono ?_⟩
 rintro e w' ⟨res, outs, rv, O', fpr, fpo, hR, he, r1, ro, hnd, hm⟩
 have hd := List.nodup_append.1 hnd
 have hnew : ∀ b, b ∈ fpr → b ∈ fp ∨ w.heap.size ≤ b := fun b hb => hm.new b (by simp [hb])
 refine ⟨res.fz, outs, rv, fun b => O' b ∧ b ∉ fpr, [], fpo, hR, he, ?_, ?_, by simpa using hd.2.1, ⟨hm.os, hm.tape, hm.output, hm.size, fun b hb hS => ?_, fun b hb => hm.new b (by simpa using Or.inr (by simpa using hb))⟩⟩
 ·have := r1.fz (O2 := fun b => O' b ∧ b ∉ fpr) (fun b hb hh => hh.2 hb) (fun b hb _ hh => hb hh.1)
  simpa [fzL] using this
 ·exact ro.frame (fun b hb => ⟨rfl, (ro.fpO b hb).1, fun hh => hd.2.2 b hh b hb rfl⟩) (fun b hb _ => ⟨rfl, fun hh => hb hh.1⟩)
 have := hm.same b hb hS
 refine ⟨this.1, ⟨fun hh => this.2.1 hh.1, fun hh => ⟨this.2.2 hh, fun hf => ?_⟩⟩⟩
 rcases hnew b hf with h5 | h5
 ·exact hS h5
 omega
theorem Ti {P : Program} {f N : Nat} {ac : ACode} {rs : List RS} {args : List V} {v : V} (hf : Bd P f N ac rs = true) (hn : args.length ≤ N)
  (h : vc P ac (Ajo N rs args fun r _ => r.fz = v) (entry N 0 args)) : Ret P f args v := Tri.freeze (R := fun r _ => r = v) (Acm hf hn h)
theorem Akm {P : Program} {f N : Nat} {ac : ACode} {rs : List RS} {args : List V} {v u : V} {k : Nat} (hf : Bd P f N ac rs = true) (hn : args.length ≤ N)
  (h : vc P ac (Ajo N rs args fun r o => r.fz = v ∧ o[k]? = some u) (entry N 0 args)) : Og P f args v k u := Tri.freeze (R := fun r o => r = v ∧ o[k]? = some u) (Acm hf hn h)
theorem Ret.frz {P : Program} {f : Nat} {vs : List V} {v v' : V} (h : Ret P f vs v) (e : v.fz = v') : Ret P f vs v' :=
 Tri.freeze (R := fun r _ => r = v') (Tri.mono h fun r _ hr => by rw [show r = v from hr]; exact e)
class NoFz {α : Type} (f : α → V) : Prop where
 eq : ∀ x, (f x).noFz = true
instance {k : IntKind} : NoFz (V.int k) := ⟨fun _ => rfl⟩
instance : NoFz Ae := ⟨fun _ => rfl⟩
instance : NoFz V.bool := ⟨fun _ => rfl⟩
instance : NoFz V.str := ⟨fun _ => rfl⟩
theorem B1 {α : Type} {f : α → V} [NoFz f] (xs : List α) : B3 (xs.map f) = true := by
 induction xs with
 | nil => rfl
 | cons x r ih => simp [B3, NoFz.eq, ih]
instance {α : Type} (m : Nat) (f : α → V) [NoFz f] : NoFz (slr true m f) := ⟨fun x => by simp [V.noFz, B1]⟩
instance {α : Type} (f : α → V) [NoFz f] : NoFz (rP true f) := ⟨fun x => by simp [V.noFz, NoFz.eq]⟩
instance {α : Type} (f : α → V) [NoFz f] : NoFz (rO true f) := ⟨fun x => by cases x <;> simp [V.noFz, NoFz.eq]⟩
instance {α : Type} (f : α → V) [NoFz f] : NoFz (rA2 f) := ⟨fun x => by simp [V.noFz, B3, NoFz.eq]⟩
instance {α : Type} (f : α → V) [NoFz f] : NoFz (rA3 f) := ⟨fun x => by simp [V.noFz, B3, NoFz.eq]⟩
section
variable {P : Program} {K : St → Prop} {σ : St} {β ρ : Type} {v : ρ} {oo : Option β} {k : β → Option ρ}
theorem CallQ.o (rep : β → V) {vs vs' : List V} {f d : Nat} (e : vs = vs') (h : oo.bind k = some v) (hr : ∀ r, oo = some r → Ret P f vs' (rep r)) (hk : ∀ r, k r = some v → Bn (A3 d (.val (rep r)) σ) K) : CallQ P f d vs [] [] K σ := by
 subst e
 obtain ⟨r, h1, h2⟩ := Option.bind_eq_some_iff.1 h
 have h3 := hk r h2
 rw [A1] at h3
 refine ⟨rfl, Tri.mono (hr r h1) ?_⟩
 rintro r o rfl
 exact ⟨rfl, h3⟩
theorem CallQ.rd (rep : β → V) {vs vs' : List V} {rs : List Nat} {f d : Nat} (e : vs = vs') (hn : ∀ r, (rep r).noFz = true) (h : oo.bind k = some v) (hr : ∀ r, oo = some r → Ret P f vs' (rep r)) (hk : ∀ r, k r = some v → Bn (A3 d (.val (rep r)) σ) K) : CallQ P f d vs [] rs K σ := by
 subst e
 obtain ⟨r, h1, h2⟩ := Option.bind_eq_some_iff.1 h
 have h3 := hk r h2
 rw [A1] at h3
 refine ⟨rfl, Tri.mono (hr r h1) ?_⟩
 rintro r' o rfl
 exact ⟨by simp [Fx, hn r], h3⟩
theorem CloQ.o (rep : β → V) {vs vs' cs : List V} {rs : List Nat} {f d : Nat} (e : vs ++ fzL cs = vs') (hn : ∀ r, Fx rs (rep r) = true) (h : oo.bind k = some v) (hr : ∀ r, oo = some r → Ret P f vs' (rep r)) (hk : ∀ r, k r = some v → Bn (A3 d (.val (rep r)) σ) K) : CloQ P f d cs vs rs K σ := by
 subst e
 obtain ⟨r, h1, h2⟩ := Option.bind_eq_some_iff.1 h
 have h3 := hk r h2
 rw [A1] at h3
 refine ⟨Tri.mono (hr r h1) ?_⟩
 rintro r' o rfl
 exact ⟨hn r, h3⟩
theorem CallP.o (rep : β → V) {vs vs' : List V} {f d : Nat} {K : V → Prop} (e : vs = vs') (h : oo.bind k = some v) (hr : ∀ r, oo = some r → Ret P f vs' (rep r)) (hk : ∀ r, k r = some v → K (rep r)) : CallP P f d vs [] K := by
 subst e
 obtain ⟨r, h1, h2⟩ := Option.bind_eq_some_iff.1 h
 exact ⟨_, Tri.mono (hr r h1) (by rintro r' _ rfl; exact ⟨rfl, rfl⟩), hk r h2⟩
theorem CallP.rd (rep : β → V) {vs vs' : List V} {rs : List Nat} {f d : Nat} {K : V → Prop} (e : vs = vs') (hn : ∀ r, (rep r).noFz = true) (h : oo.bind k = some v) (hr : ∀ r, oo = some r → Ret P f vs' (rep r)) (hk : ∀ r, k r = some v → K (rep r)) : CallP P f d vs rs K := by
 subst e
 obtain ⟨r, h1, h2⟩ := Option.bind_eq_some_iff.1 h
 exact ⟨_, Tri.mono (hr r h1) (by rintro r' _ rfl; exact ⟨rfl, by simp [Fx, hn r]⟩), hk r h2⟩
theorem FrzQ.z {T : V} {K : V → Prop} (h : K T.fz) : FrzQ T 0 K := ⟨_, Kb T, h⟩
theorem FrzQ.d {T : V} {n : Nat} {K : V → Prop} (T' : V) (e : T.fzAt n = T') (h : K T') : FrzQ T n K := ⟨_, e, h⟩
theorem LendP.io {γ : Type} {o : Option (β × γ)} {k : β × γ → Option ρ} (rep : β → V) (rep2 : γ → V) {vs vs' : List V} {rs : List Nat} {f d j : Nat} {T : V} {K : V → V → Prop} (e : vs = vs')
  (hn : ∀ b, Fx rs (rep b) = true) (hn2 : ∀ b, Fx rs (rep2 b) = true ∧ (rep2 b).node = true) (hu : ∀ u, upd [] T u = some u) (h : o.bind k = some v) (hr : ∀ x, o = some x → Og P f vs' (rep x.1) j (rep2 x.2))
  (hk : ∀ b c, k (b, c) = some v → K (rep b) (rep2 c)) : LendP P f d vs rs j [] T K := by
 subst e
 obtain ⟨⟨b, c⟩, h1, h2⟩ := Option.bind_eq_some_iff.1 h
 exact ⟨_, _, _, hr _ h1, ⟨hn b, (hn2 c).1, (hn2 c).2, hu _⟩, hk b c h2⟩
theorem CallQ.io {γ : Type} {o : Option (β × γ)} {k : β × γ → Option ρ} (rep : β → V) (rep2 : γ → V) {vs vs' : List V} {rs : List Nat} {f d j r : Nat} {p : List Nat} {T : V} (e : vs = vs') (hroots : rs.contains r = false)
  (hn : ∀ b, Fx rs (rep b) = true) (hn2 : ∀ b, Fx rs (rep2 b) = true ∧ (rep2 b).node = true) (hT : look σ r = .val T) (h : o.bind k = some v) (hr : ∀ x, o = some x → Og P f vs' (rep x.1) j (rep2 x.2))
  (hk : ∀ b c, k (b, c) = some v → Nr p T (rep2 c) fun T' => Bn (A3 d (.val (rep b)) (J0 r T' (p.length + 1) σ)) K) : CallQ P f d vs [(j, r, p)] rs K σ := by
 subst e
 obtain ⟨⟨b, c⟩, h1, h2⟩ := Option.bind_eq_some_iff.1 h
 obtain ⟨T', h3, h4⟩ := Hi (hk b c h2)
 rw [A1] at h4
 refine ⟨by simp only [H8, hroots]; rfl, Tri.mono (hr _ h1) ?_⟩
 rintro res outs ⟨rfl, ho⟩
 refine ⟨hn b, ?_⟩
 rw [ho, hT]
 exact ⟨(hn2 c).1, by rw [h3]; show K (A3 d _ (J0 r T' (p.length + Aa4 (rep2 c)) σ)); rw [Ut (hn2 c).2]; exact h4⟩
theorem CallQ.give (rep : β → V) {vs vs' : List V} {rs : List Nat} {f d j r : Nat} {p : List Nat} {T : V} (e : vs = vs') (hroots : rs.contains r = false)
  (hn : ∀ b, Fx rs (rep b) = true) (hT : look σ r = .val T) (h : oo.bind k = some v) (hr : ∀ x, oo = some x → Og P f vs' (rep x) j .dead)
  (hk : ∀ b, k b = some v → Nr p T .dead fun T' => Bn (A3 d (.val (rep b)) (J0 r T' p.length σ)) K) : CallQ P f d vs [(j, r, p)] rs K σ := by
 subst e
 obtain ⟨b, h1, h2⟩ := Option.bind_eq_some_iff.1 h
 obtain ⟨T', h3, h4⟩ := Hi (hk b h2)
 rw [A1] at h4
 refine ⟨by simp only [H8, hroots]; rfl, Tri.mono (hr _ h1) ?_⟩
 rintro res outs ⟨rfl, ho⟩
 refine ⟨hn b, ?_⟩
 rw [ho, hT]
 exact ⟨by cases rs <;> rfl, by rw [h3]; exact h4⟩
theorem LendQ.io {γ : Type} {o : Option (β × γ)} {k : β × γ → Option ρ} (rep : β → V) (rep2 : γ → V) (cs : γ → List V) (fld : γ → V) {bs : List A} {vs vs' : List V} {rs : List Nat} {f d j r : Nat} {p : List Nat} {T : V}
  (e : .agg (vs.take bs.length) :: vs.drop bs.length = vs') (hc : ∀ c, rep2 c = .agg (cs c)) (hf : ∀ c, (cs c)[j]? = some (fld c)) (hroots : rs.contains r = false)
  (hn : ∀ b, Fx rs (rep b) = true) (hn2 : ∀ b, Fx rs (fld b) = true ∧ (fld b).node = true) (hT : look σ r = .val T) (h : o.bind k = some v) (hr : ∀ x, o = some x → Og P f vs' (rep x.1) 0 (rep2 x.2))
  (hk : ∀ b c, k (b, c) = some v → Nr p T (fld c) fun T' => Bn (A3 d (.val (rep b)) (J0 r T' (p.length + 1) σ)) K) : LendQ P f d bs vs [(j, r, p)] rs K σ := by
 subst e
 obtain ⟨⟨b, c⟩, h1, h2⟩ := Option.bind_eq_some_iff.1 h
 obtain ⟨T', h3, h4⟩ := Hi (hk b c h2)
 rw [A1] at h4
 refine ⟨by simp only [H8, hroots]; rfl, Tri.mono (hr _ h1) ?_⟩
 rintro res outs ⟨rfl, ho⟩
 cases outs with
 | nil => cases ho
 | cons x o =>
   simp only [List.getElem?_cons_zero, Option.some.injEq] at ho
   subst ho
   have hj : (cs c ++ o)[j]? = some (fld c) := by
    have hlt := (List.getElem?_eq_some_iff.1 (hf c)).1
    rw [List.getElem?_append_left hlt]; exact hf c
   show Ml _ _ (rep2 c :: o)
   rw [hc c]
   refine ⟨hn b, ?_⟩
   rw [hj, hT]
   exact ⟨(hn2 c).1, by rw [h3]; show K (A3 d _ (J0 r T' (p.length + Aa4 (fld c)) σ)); rw [Ut (hn2 c).2]; exact h4⟩
end
abbrev Tgt := Ex × List Nat × St
def atQ (t : Tgt) : Ex → St → Prop := fun ex σ => ex = t.1 ∧ restrict t.2.1 σ = t.2.2
def F6 {σ' τ : Type} (ks : List Nat) (st : σ' → St) (tg : τ → Tgt) : σ' ⊕ τ → Ex → St → Prop
 | .inl s => atQ (.normal, ks, st s)
 | .inr t => atQ (tg t)
def Ex.isNormal : Ex → Bool
 | .normal => true
 | .exit _ => false
 | .ret => false
theorem LoopQ.o {σ' τ ρ : Type} {body : σ' → Option (σ' ⊕ τ)} {k : τ → Option ρ} {v : ρ} {s0 : σ'} {P : Program} {c : ACode} {Q : Ex → St → Prop} {σ : St} (ks : List Nat) (st : σ' → St) (tg : τ → Tgt)
  (h : (Bb body s0).bind k = some v) (hb : ∀ s o, body s = some o → vc P c (F6 ks st tg o) (st s)) (h0 : restrict ks σ = st s0) (hn : ∀ t, (tg t).1.isNormal = false) (ha : ∀ t, k t = some v → Q (tg t).1 (tg t).2.2) :
  LoopQ P c Q σ := by
 obtain ⟨t, h1, h2⟩ := Option.bind_eq_some_iff.1 h
 obtain ⟨n, hit⟩ := Id.1 h1
 refine ⟨ks, n, ?_⟩
 rw [h0]
 clear h0 h h1
 induction n generalizing s0 with
 | zero => cases hit
 | succ n ih =>
   simp only [V9] at hit
   split at hit
   ·cases hit
   ·rename_i s' e
    refine Ki ?_ (O4 (hb _ _ e))
    rintro ex τ' ⟨h3, h4⟩
    subst h3
    show Q4 (awp P c) ks (less Q) n (restrict ks τ')
    rw [h4]
    exact ih hit
   ·rename_i t' e
    cases hit
    refine Ki ?_ (O4 (hb _ _ e))
    rintro ex τ' ⟨h3, h4⟩
    have hne := hn t
    rw [← h3] at hne
    have hq := ha t h2
    rw [← h4, ← h3] at hq
    cases ex with
    | normal => cases hne
    | exit i => exact .inr ⟨_, hq⟩
    | ret => exact .inr ⟨_, hq⟩
theorem CutQ.o {τ ρ : Type} {e : Option τ} {k : τ → Option ρ} {v : ρ} {P : Program} {c : ACode} {Q : Ex → St → Prop} {σ : St} (tg : τ → Tgt)
  (h : e.bind k = some v) (hb : ∀ t, e = some t → vc P c (atQ (tg t)) σ) (ha : ∀ t, k t = some v → Q (tg t).1 (tg t).2.2) : CutQ P c Q σ := by
 obtain ⟨t, h1, h2⟩ := Option.bind_eq_some_iff.1 h
 refine ⟨?_⟩
 show awp P c (less Q) σ
 refine Ki ?_ (O4 (hb t h1))
 rintro ex τ' ⟨h3, h4⟩
 have hq := ha t h2
 rw [← h4, ← h3] at hq
 exact .inr ⟨_, hq⟩
end Go.Proofs.Ytjinhobffbppbaa.Ax
