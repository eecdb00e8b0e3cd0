/-
 Part of the proof; see the last text of the claim.
-/
import Derived.Test.YtoaojijoefljaaaAx3
namespace Go.Proofs.Ytoaojijoefljaaa.Ax
open Go
structure Br (b : Bool) (X Y : Prop) : Prop where
 t : b = true → X
 f : b = false → Y
structure Ask (p X : Prop) : Prop where
 p : p
 x : X
structure Elem (xs : List V) (j : Nat) (K : V → Prop) : Prop where
 h : K (xs.getD j .dead)
structure Cells (xs : List V) (c n : Nat) (K : List V → Prop) : Prop where
 h : ∃ us, c + n ≤ xs.length ∧ (xs.drop c).take n = us ∧ K us
structure Kid (T : V) (c : Nat) (K : V → Prop) : Prop where
 h : ∃ k, T.stepOk = true ∧ T.kids[c]? = some k ∧ K k
structure SetKids (x : V) (c : Nat) (us : List V) (K : V → Prop) : Prop where
 h : ∃ x', x.setKids c us = some x' ∧ K x'
structure MkQ (d n : Nat) (z : V) (K : List V → Prop) : Prop where
 h : K (List.replicate n z)
structure BslQ (d m : Nat) (us : List V) (K : List V → Prop) : Prop where
 h : N2 m us = true ∧ K us
structure AppQ (d : Nat) (xs ys : List V) (K : List V → Prop) : Prop where
 h : C4 (Bp ys) = true ∧ xs.length + ys.length ≤ LIM ∧ K (xs ++ ys)
structure NoOwn (ys : List V) (X Y : Prop) : Prop where
 h : (Bi (Bp ys) = false ∧ X) ∨ (Bi (Bp ys) = true ∧ Y)
structure SlcQ (xs : List V) (l h : Int) (K : List V → Prop) : Prop where
 h : 0 ≤ l ∧ l ≤ h ∧ h ≤ (xs.length : Int) ∧ K ((xs.drop l.toNat).take (h.toNat - l.toNat))
structure Idx (j : Int) (lo n : Nat) (K : Int → Prop) : Prop where
 h : lo ≤ j → j < n → K j
def Bh : Nat → Nat → Nat
 | x, 0 => x * 0
 | x, 1 => x
 | x, m + 2 => x * (m + 2)
theorem Aa (x : Nat) : Bh x 1 = x := rfl
theorem Rr (x m : Nat) : Bh x m = x * m := by
 unfold Bh; split <;> simp
def Axj (a b : Int) : Int := IntKind.i64.wrap (a * 2 ^ (min b.toNat IntKind.i64.bits))
def Ayh (a b : Int) : Int := a.fdiv (2 ^ (min b.toNat IntKind.i64.bits))
def Ax5 (a b : Int) : Int := IntKind.i64.wrap (BitVec.ofInt IntKind.i64.bits a &&& BitVec.ofInt IntKind.i64.bits b).toNat
def orI (a b : Int) : Int := IntKind.i64.wrap (BitVec.ofInt IntKind.i64.bits a ||| BitVec.ofInt IntKind.i64.bits b).toNat
def Ax7 (a b : Int) : Int := IntKind.i64.wrap (BitVec.ofInt IntKind.i64.bits a ^^^ BitVec.ofInt IntKind.i64.bits b).toNat
def Aun (a b : Int) : Int := IntKind.i64.wrap (BitVec.ofInt IntKind.i64.bits a &&& ~~~BitVec.ofInt IntKind.i64.bits b).toNat
theorem Br.not {b : Bool} {X Y : Prop} (h : Br b Y X) : Br (!b) X Y := by
 cases b
 ·exact ⟨fun _ => h.f rfl, fun e => Bool.noConfusion e⟩
 exact ⟨fun e => Bool.noConfusion e, fun _ => h.t rfl⟩
theorem Br.beq {a b : Int} {X Y : Prop} (h1 : a = b → X) (h2 : a ≠ b → Y) : Br (a == b) X Y := ⟨fun h => h1 (by simpa using h), fun h => h2 (by simpa using h)⟩
structure Len (xs : List V) (K : Nat → Prop) : Prop where
 h : K xs.length
theorem Len.map {α : Type} {f : α → V} {xs : List α} {K : Nat → Prop} (h : K xs.length) : Len (xs.map f) K := ⟨by rw [List.length_map]; exact h⟩
theorem Len.app {xs ys : List V} {K : Nat → Prop} (h : K (xs.length + ys.length)) : Len (xs ++ ys) K := ⟨by rw [List.length_append]; exact h⟩
theorem Br.yes {X Y : Prop} (h : X) : Br true X Y := ⟨fun _ => h, fun e => Bool.noConfusion e⟩
theorem Br.no {X Y : Prop} (h : Y) : Br false X Y := ⟨fun e => Bool.noConfusion e, fun _ => h⟩
mutual
def R8 : A → (A → Prop) → Prop
 | .top, K => K .top
 | .val v, K => K (.val v)
 | .ref r p, K => K (.ref r p)
 | .addr r p c, K => K (.addr r p c)
 | .fad cs, K => K (.fad cs)
 | .agg as, K => Aho as fun bs => K (.agg bs)
 | .clo f as, K => Aho as fun bs => K (.clo f bs)
def Aho : List A → (List A → Prop) → Prop
 | [], K => K []
 | a :: r, K => R8 a fun b => Aho r fun s => K (b :: s)
end
mutual
theorem Mw : (a : A) → (K : A → Prop) → R8 a K = K a
 | .top, _ => rfl
 | .val _, _ => rfl
 | .ref _ _, _ => rfl
 | .addr _ _ _, _ => rfl
 | .fad _, _ => rfl
 | .agg as, K => by simp only [R8]; rw [Ac7 as]
 | .clo f as, K => by simp only [R8]; rw [Ac7 as]
theorem Ac7 : (as : List A) → (K : List A → Prop) → Aho as K = K as
 | [], _ => rfl
 | a :: r, K => by simp only [Aho]; rw [Mw a, Ac7 r]
end
def B8 : St → (St → Prop) → Prop
 | [], K => K []
 | (k, a) :: r, K => R8 a fun b => B8 r fun s => K ((k, b) :: s)
theorem A6 : ∀ (σ : St) (K : St → Prop), B8 σ K = K σ := by
 intro σ
 induction σ with
 | nil => intro K; rfl
 | cons e r ih => intro K; obtain ⟨k, a⟩ := e; simp only [B8]; rw [Mw, ih]
def Amk (o : Option St) (K : St → Prop) : Prop := match o with
 | some σ => B8 σ K
 | none => False
theorem Aef {o : Option St} {K : St → Prop} (h : Amk o K) : ∃ σ, o = some σ ∧ K σ := by
 unfold Amk at h
 split at h
 ·rw [A6] at h; exact ⟨_, rfl, h⟩
 exact h.elim
def L3 (s : Nat) (b : Bool) : St → St
 | [] => []
 | (k, a) :: r => match Nat.beq k s with
   | true => (k, .val (.bool b)) :: r
   | false => (k, a) :: L3 s b r
theorem Ph {s : Nat} {b : Bool} : ∀ {σ : St}, look σ s = .val (.bool b) → L3 s b σ = σ := by
 intro σ
 induction σ with
 | nil => intro _; rfl
 | cons e r ih =>
   obtain ⟨k, a⟩ := e
   intro h
   simp only [look] at h
   simp only [L3]
   by_cases hk : k = s
   ·rw [if_pos hk] at h
    subst hk
    rw [show Nat.beq k k = true by simp, h]
   ·rw [if_neg hk] at h
    rw [show Nat.beq k s = false by
     cases hb : Nat.beq k s with
     | false => rfl
     | true => exact absurd (Nat.eq_of_beq_eq_true hb) hk]
    simp only [ih h]
def Aya (x : X) (b : Bool) (σ : St) : St := match x with
 | .t s => L3 s b σ
 | .c _ => σ
def Aju : List Nat → V → (V → Prop) → Prop
 | [], T, K => K T
 | c :: p, T, K => Kid T c fun k => Aju p k K
theorem U5 : ∀ {p : List Nat} {T : V} {K : V → Prop}, Aju p T K → ∃ u, sub p T = some u ∧ K u := by
 intro p
 induction p with
 | nil => intro T K h; exact ⟨T, rfl, h⟩
 | cons c p ih =>
   intro T K h
   obtain ⟨k, h1, h2, h3⟩ := h.h
   obtain ⟨u, h4, h5⟩ := ih h3
   exact ⟨u, by simp only [sub, h1, h2, if_true, h4], h5⟩
def Zf (T : A) (p : List Nat) (K : V → Prop) : Prop := match T with
 | .val V => Aju p V K
 | _ => False
def L1 : List Nat → V → V → (V → Prop) → Prop
 | [], _, u, K => K u
 | c :: p, T, u, K => Kid T c fun k => L1 p k u fun k' => SetKids T c [k'] K
theorem Fi : ∀ {p : List Nat} {T u : V} {K : V → Prop}, L1 p T u K → ∃ T', upd p T u = some T' ∧ K T' := by
 intro p
 induction p with
 | nil => intro T u K h; exact ⟨u, rfl, h⟩
 | cons c p ih =>
   intro T u K h
   obtain ⟨k, h1, h2, h3⟩ := h.h
   obtain ⟨k', h4, h5⟩ := ih h3
   obtain ⟨T', h6, h7⟩ := h5.h
   exact ⟨T', by simp only [upd, h2, h4, h6], h7⟩
theorem Jf {σ : St} {r : Nat} {p : List Nat} {K : V → Prop} (h : Zf (look σ r) p K) : ∃ T u, look σ r = .val T ∧ sub p T = some u ∧ Bx σ r p = some u ∧ K u := by
 unfold Zf at h
 split at h
 ·rename_i T hT
  obtain ⟨u, h1, h2⟩ := U5 h
  exact ⟨T, u, hT, h1, by simp [Bx, hT, h1], h2⟩
 exact h.elim
def Ads (a b : A) (K : Int → Int → Prop) (E : Prop) : Prop := match a, b with
 | .val (.int .i64 x), .val (.int .i64 y) => K x y
 | _, _ => E
abbrev InI (n : Int) : Prop := -9223372036854775808 ≤ n ∧ n ≤ 9223372036854775807
theorem Asn {a b : A} {K : Int → Int → Prop} {E : Prop} (h : Ads a b K E) : (∃ x y, a = .val (.int .i64 x) ∧ b = .val (.int .i64 y) ∧ K x y) ∨ E := by
 unfold Ads at h
 split at h
 ·exact .inl ⟨_, _, rfl, rfl, h⟩
 exact .inr h
def Hy (o : Option (Nat × A)) (K : Nat → A → Prop) : Prop := match o with
 | some (d, a) => R8 a fun b => K d b
 | none => False
theorem Iy {o : Option (Nat × A)} {K : Nat → A → Prop} (h : Hy o K) : ∃ d a, o = some (d, a) ∧ K d a := by
 unfold Hy at h
 split at h
 ·rw [Mw] at h; exact ⟨_, _, rfl, h⟩
 exact h.elim
def Ay3 (d : Nat) (xs : List V) (K : Nat → A → Prop) : Prop := Len xs fun n => K d (.val (.int .i64 n))
def Avs (d m m' : Nat) (xs : List V) (j : Int) (own : Option (Nat × List Nat)) (K : Nat → A → Prop) : Prop := match Nat.beq m' m with
 | true => Len xs fun n => Ask (0 ≤ j ∧ j < n) (match own with
   | none => Elem xs j.toNat fun u => K d (.fad u.cells)
   | some (r, p) => K d (.addr r p (Bh j.toNat m)))
 | false => False
structure LkQ (es : List (ByteArray × Lf)) (s : ByteArray) (z : Lf) (ok : Bool) (K : V → Prop) : Prop where
 h : K (Aph es s z ok)
structure MsQ (es : List (ByteArray × Lf)) (s : ByteArray) (x : Lf) (K : List (ByteArray × Lf) → Prop) : Prop where
 h : K (K5 es s x)
structure BsQ (xs : List V) (K : ByteArray → Prop) : Prop where
 h : ∃ ns, N9 xs = some ns ∧ K (Vp ns)
def Arf (d m : Nat) (xs : List V) (K : Nat → A → Prop) : Prop := match Nat.beq m 1 with
 | true => BsQ xs fun s => K d (.val (.str s))
 | false => False
structure FrzQ (T : V) (n : Nat) (K : V → Prop) : Prop where
 h : ∃ T', T.fzAt n = T' ∧ K T'
def Ad7 (o : AOp) (σ : St) (K : Nat → A → Prop) : Prop := match o with
 | .mlk d x k z ok => match Ah σ x, Ah σ k with
   | .val (.mp o es), .val (.str s) => (match o with
     | false => LkQ es s z ok fun v => K d (.val v)
     | true => False)
   | .ref r p, .val (.str s) => Zf (look σ r) p fun u => match u with
     | .mp _ es => LkQ es s z ok fun v => K d (.val v)
     | _ => False
   | _, _ => False
 | .bstr d x => match Ah σ x with
   | .val (.sl o m xs) => (match o with
     | false => Arf d m xs K
     | true => False)
   | .ref r p => Zf (look σ r) p fun u => match u with
     | .sl _ m xs => Arf d m xs K
     | _ => False
   | _ => False
 | .bin d op x y => match op with
   | .add => Ads (Ah σ x) (Ah σ y) (fun a b => Ask (InI (a + b)) (K d (.val (.int .i64 (a + b))))) (Hy (qR o σ) K)
   | .sub => Ads (Ah σ x) (Ah σ y) (fun a b => Ask (InI (a - b)) (K d (.val (.int .i64 (a - b))))) (Hy (qR o σ) K)
   | .mul => Ads (Ah σ x) (Ah σ y) (fun a b => Ask (InI (a * b)) (K d (.val (.int .i64 (a * b))))) (Hy (qR o σ) K)
   | .quo => Ads (Ah σ x) (Ah σ y) (fun a b => Ask (b ≠ 0 ∧ InI (a.tdiv b)) (K d (.val (.int .i64 (a.tdiv b))))) (Hy (qR o σ) K)
   | .rem => Ads (Ah σ x) (Ah σ y) (fun a b => Ask (b ≠ 0) (K d (.val (.int .i64 (a.tmod b))))) (Hy (qR o σ) K)
   | .shl => Ads (Ah σ x) (Ah σ y) (fun a b => Ask (0 ≤ b) (K d (.val (.int .i64 (Axj a b))))) (Hy (qR o σ) K)
   | .shr => Ads (Ah σ x) (Ah σ y) (fun a b => Ask (0 ≤ b) (K d (.val (.int .i64 (Ayh a b))))) (Hy (qR o σ) K)
   | .and => Ads (Ah σ x) (Ah σ y) (fun a b => K d (.val (.int .i64 (Ax5 a b)))) (Hy (qR o σ) K)
   | .or => Ads (Ah σ x) (Ah σ y) (fun a b => K d (.val (.int .i64 (orI a b)))) (Hy (qR o σ) K)
   | .xor => Ads (Ah σ x) (Ah σ y) (fun a b => K d (.val (.int .i64 (Ax7 a b)))) (Hy (qR o σ) K)
   | .andNot => Ads (Ah σ x) (Ah σ y) (fun a b => K d (.val (.int .i64 (Aun a b)))) (Hy (qR o σ) K)
   | _ => Hy (qR o σ) K
 | .pick d c x y => match Ah σ c with
   | .val (.bool b) => Br b (Hy ((nt (Ah σ x)).map (d, ·)) K) (Hy ((nt (Ah σ y)).map (d, ·)) K)
   | _ => False
 | .iad d m x i => match Ah σ x, Ah σ i with
   | .val (.sl _ m' xs), .val (.int _ j) => Avs d m m' xs j none K
   | .ref r p, .val (.int _ j) => Zf (look σ r) p fun u => match u with
     | .sl o m' xs => match o with
       | true => Avs d m m' xs j (some (r, p)) K
       | false => False
     | _ => False
   | _, _ => False
 | .aad d m n x i => match F9 σ (Ah σ x), Ah σ i with
   | some l, .val (.int _ j) => Ask (0 ≤ j ∧ j < n) (Idx j 0 n fun j => R8 (Adv (Bh j.toNat m) l) fun b => K d b)
   | _, _ => False
 | .ld d n ag x => match F9 σ (Ah σ x) with
   | some (.own r p c) => Zf (look σ r) p fun u => Cells u.kids c n fun ks => R8 (mkA ag (Y4 r p c ks)) fun b => K d b
   | _ => Hy (qR o σ) K
 | .mk d m z x => match Ah σ x with
   | .val (.int _ n) => Ask (0 ≤ n ∧ n ≤ (LIM : Int)) (MkQ d n.toNat z.up fun l => K d (.val (.sl true m l)))
   | _ => False
 | .mkc d m _ x => match Ah σ x with
   | .val (.int _ n) => Ask (0 ≤ n ∧ n ≤ (LIM : Int)) (K d (.val (.sl true m [])))
   | _ => False
 | .bsl d m ps => match Il (ps.map (Ah σ)) with
   | some Us => BslQ d m (upL Us) fun l => K d (.val (.sl true m l))
   | none => False
 | .mkr d m z x => match Ah σ x with
   | .val (.int _ n) => Ask (0 ≤ n ∧ n ≤ (LIM : Int)) (MkQ d n.toNat z.up fun l => FrzQ (.sl true m l) 0 fun T' => K d (.val T'))
   | _ => False
 | .bslr d m ps => match Il (ps.map (Ah σ)) with
   | some Us => BslQ d m (upL Us) fun l => FrzQ (.sl true m l) 0 fun T' => K d (.val T')
   | none => False
 | .slc d m x lo hi => match Ah σ x with
   | .val (.ptr o (.agg cs)) => (match o with
     | true => False
     | false => (match Amp m cs (lo.map (Ah σ)) (hi.map (Ah σ)) with
       | true => K d (.val (.sl false 1 cs))
       | false => False))
   | .val (.sl o m' xs) => (match o with
     | true => False
     | false => (match Nat.beq m' m with
       | true => (match Zx 0 (lo.map (Ah σ)) with
         | some l => (match hi with
           | none => Len xs fun n => SlcQ xs l n fun ys => K d (.val (.sl false m ys))
           | some y => (match Al6 (Ah σ y) with
             | some h => SlcQ xs l h fun ys => K d (.val (.sl false m ys))
             | none => False))
         | none => False)
       | false => False))
   | _ => False
 | .len d x => match Ah σ x with
   | .val (.sl _ _ xs) => Ay3 d xs K
   | .ref r p => Zf (look σ r) p fun u => match u with
     | .sl _ _ xs => Ay3 d xs K
     | _ => False
   | _ => Hy (qR o σ) K
 | .sidx d x i => (match Ah σ x, Ah σ i with
   | .val (.str s), .val (.int _ j) => Ask (0 ≤ j ∧ j < (s.size : Int)) (K d (.val (.int .u8 (Ad6 s j))))
   | _, _ => False)
 | o => Hy (qR o σ) K
theorem Ajw {d m m' : Nat} {xs : List V} {j : Int} {own : Option (Nat × List Nat)} {K : Nat → A → Prop} (h : Avs d m m' xs j own K) : m' = m ∧ 0 ≤ j ∧ j < xs.length ∧ (match own with
  | none => K d (.fad (xs.getD j.toNat .dead).cells)
  | some (r, p) => K d (.addr r p (j.toNat * m))) := by
 unfold Avs at h
 split at h
 ·rename_i hm
  have h1 := h.h
  refine ⟨Nat.eq_of_beq_eq_true hm, h1.p.1, h1.p.2, ?_⟩
  cases own with
  | none => exact h1.x.h
  | some e => have := h1.x; simpa [Rr] using this
 exact h.elim
theorem Aih {d m : Nat} {xs : List V} {K : Nat → A → Prop} (h : Arf d m xs K) : ∃ ns, m = 1 ∧ N9 xs = some ns ∧ K d (.val (.str (Vp ns))) := by
 unfold Arf at h
 split at h
 ·rename_i hm
  obtain ⟨ns, h1, h2⟩ := h.h
  exact ⟨ns, Nat.eq_of_beq_eq_true hm, h1, h2⟩
 exact h.elim
theorem Rx {o : AOp} {σ : St} {K : Nat → A → Prop} (h : Ad7 o σ K) : ∃ d a, qR o σ = some (d, a) ∧ K d a := by
 unfold Ad7 at h
 split at h
 ·rename_i d x k z ok
  split at h
  ·rename_i o es s hx hk
   split at h
   ·exact ⟨_, _, by simp [qR, hx, hk, mpA, Du, An8], h.h⟩
   exact h.elim
  ·rename_i r p s hx hk
   obtain ⟨T, u, hT, hs, hn, hq⟩ := Jf h
   split at hq
   ·exact ⟨_, _, by simp [qR, hx, hk, mpA, hn, Du, An8], hq.h⟩
   exact hq.elim
  exact h.elim
 ·rename_i d x
  split at h
  ·rename_i o m xs hx
   split at h
   ·obtain ⟨ns, h1, h2, h3⟩ := Aih h
    subst h1
    exact ⟨_, _, by simp [qR, hx, slA, h2], h3⟩
   exact h.elim
  ·rename_i r p hx
   obtain ⟨T, u, hT, hs, hn, hq⟩ := Jf h
   split at hq
   ·obtain ⟨ns, h1, h2, h3⟩ := Aih hq
    subst h1
    exact ⟨_, _, by simp [qR, hx, slA, hn, h2], h3⟩
   exact hq.elim
  exact h.elim
 ·rename_i d op x y
  split at h
  case h_12 => exact Iy h
  all_goals
   rcases Asn h with ⟨a, b, ha, hb, hk⟩ | h
   case inr => exact Iy h
  ·exact ⟨_, _, by simp [qR, ha, hb, Du, V.isBool, Qy, Yh hk.p.1 hk.p.2], hk.x⟩
  ·exact ⟨_, _, by simp [qR, ha, hb, Du, V.isBool, Qy, Yh hk.p.1 hk.p.2], hk.x⟩
  ·exact ⟨_, _, by simp [qR, ha, hb, Du, V.isBool, Qy, Yh hk.p.1 hk.p.2], hk.x⟩
  ·exact ⟨_, _, by simp [qR, ha, hb, Du, V.isBool, Qy, hk.p.1, Yh hk.p.2.1 hk.p.2.2], hk.x⟩
  ·exact ⟨_, _, by simp [qR, ha, hb, Du, V.isBool, Qy, hk.p], hk.x⟩
  ·exact ⟨d, .val (.int .i64 (Axj a b)), by simp [qR, ha, hb, Du, V.isBool, Qy, Int.not_lt.2 hk.p, Axj], hk.x⟩
  ·exact ⟨d, .val (.int .i64 (Ayh a b)), by simp [qR, ha, hb, Du, V.isBool, Qy, Int.not_lt.2 hk.p, Ayh], hk.x⟩
  ·exact ⟨d, .val (.int .i64 (Ax5 a b)), by simp [qR, ha, hb, Du, V.isBool, Qy, Ax5], hk⟩
  ·exact ⟨d, .val (.int .i64 (orI a b)), by simp [qR, ha, hb, Du, V.isBool, Qy, orI], hk⟩
  ·exact ⟨d, .val (.int .i64 (Ax7 a b)), by simp [qR, ha, hb, Du, V.isBool, Qy, Ax7], hk⟩
  exact ⟨d, .val (.int .i64 (Aun a b)), by simp [qR, ha, hb, Du, V.isBool, Qy, Aun], hk⟩
 ·rename_i d c x y
  split at h
  ·rename_i b hb
   cases b
   ·obtain ⟨d', a, h1, h2⟩ := Iy (h.f rfl)
    exact ⟨d', a, by simp only [qR, hb]; simpa using h1, h2⟩
   obtain ⟨d', a, h1, h2⟩ := Iy (h.t rfl)
   exact ⟨d', a, by simp only [qR, hb]; simpa using h1, h2⟩
  exact h.elim
 ·rename_i d m x i
  split at h
  ·rename_i hx hi
   obtain ⟨h1, h2, h3, h4⟩ := Ajw h
   subst h1
   exact ⟨_, _, by simp only [qR, hx, hi, h2, h3, and_self, if_true], h4⟩
  ·rename_i hx hi
   obtain ⟨T, u, hT, hs, hn, hk⟩ := Jf h
   split at hk
   case h_2 => exact hk.elim
   split at hk
   case h_2 => exact hk.elim
   obtain ⟨h1, h2, h3, h4⟩ := Ajw hk
   subst h1
   exact ⟨_, _, by simp only [qR, hx, hi, hn, h2, h3, and_self, if_true], h4⟩
  exact h.elim
 ·rename_i d m n x i
  split at h
  ·rename_i hl hi
   have h2 := h.x.h h.p.1 h.p.2
   rw [Mw, Rr] at h2
   exact ⟨_, _, by simp only [qR, hl, hi, h.p.1, h.p.2, and_self, if_true], h2⟩
  exact h.elim
 ·rename_i d n ag x
  split at h
  ·rename_i r p c hl
   obtain ⟨T, u, hT, hs, hn, hk⟩ := Jf h
   obtain ⟨ks, h1, h2, h3⟩ := hk.h
   rw [Mw] at h3
   subst h2
   exact ⟨_, _, by simp [qR, hl, Y6, hn, h1], h3⟩
  exact Iy h
 ·rename_i d m z x
  split at h
  ·rename_i hx
   exact ⟨_, _, by simp [qR, hx, h.p.1, h.p.2], h.x.h⟩
  exact h.elim
 ·rename_i d m z x
  split at h
  ·rename_i hx
   exact ⟨_, _, by simp [qR, hx, h.p.1, h.p.2], h.x⟩
  exact h.elim
 ·rename_i d m ps
  split at h
  ·rename_i Us hU
   exact ⟨_, _, by simp [qR, hU, h.h.1], h.h.2⟩
  exact h.elim
 ·rename_i d m z x
  split at h
  ·rename_i hx
   obtain ⟨T', e1, h1⟩ := h.x.h.h
   rw [Au] at e1
   subst e1
   exact ⟨_, _, by simp [qR, hx, h.p.1, h.p.2], h1⟩
  exact h.elim
 ·rename_i d m ps
  split at h
  ·rename_i Us hU
   obtain ⟨T', e1, h1⟩ := h.h.2.h
   rw [Au] at e1
   subst e1
   exact ⟨_, _, by simp [qR, hU, h.h.1], h1⟩
  exact h.elim
 ·rename_i d m x lo hi
  split at h
  case h_3 => exact h.elim
  case h_1 =>
   rename_i o cs hx
   split at h
   ·exact h.elim
   ·split at h
    case h_2 => exact h.elim
    rename_i hao
    exact ⟨_, _, by simp only [qR, Ahx, hx]; rw [if_pos hao]; rfl, h⟩
  rename_i o m' xs hx
  split at h
  ·exact h.elim
  split at h
  case h_2 => exact h.elim
  rename_i hm
  have hm' := Nat.eq_of_beq_eq_true hm
  split at h
  case h_2 => exact h.elim
  rename_i l hl
  split at h
  ·obtain ⟨h0, h1, h2, h3⟩ := h.h.h
   have e2 : Zx (xs.length : Int) ((none : Option X).map (Ah σ)) = some (xs.length : Int) := rfl
   exact ⟨_, _, by simp only [qR, Ahx, hx, hl, e2]; rw [if_pos ⟨hm', h0, h1, h2⟩]; rfl, h3⟩
  rename_i y
  split at h
  case h_2 => exact h.elim
  rename_i hh hy
  obtain ⟨h0, h1, h2, h3⟩ := h.h
  have e2 : Zx (xs.length : Int) ((some y).map (Ah σ)) = some hh := hy
  exact ⟨_, _, by simp only [qR, Ahx, hx, hl, e2]; rw [if_pos ⟨hm', h0, h1, h2⟩]; rfl, h3⟩
 ·rename_i d x
  split at h
  ·rename_i hx
   exact ⟨_, _, by simp [qR, hx, Aco], h.h⟩
  ·rename_i hx
   obtain ⟨T, u, hT, hs, hn, hk⟩ := Jf h
   split at hk
   case h_2 => exact hk.elim
   exact ⟨_, _, by simp [qR, hx, Aco, hn], hk.h⟩
  exact Iy h
 ·rename_i d x i
  split at h
  case h_2 => exact h.elim
  rename_i hx hi
  exact ⟨_, _, by simp only [qR, hx, hi]; rw [if_pos h.p], h.x⟩
 exact Iy h
def yK (σ : St) (m : Nat) (y : A) (K : List V → St → Prop) : Prop := match y with
 | .val (.sl _ m' ys) => match Nat.beq m' m with
   | true => K ys σ
   | false => False
 | .val (.nilsl _) => K [] σ
 | .ref r p => Zf (look σ r) p fun u => match u with
   | .sl o m' ys => match o with
     | true => match Nat.beq m' m with
       | true => NoOwn ys (K ys σ) (match Hi σ (.ref r p) with
         | some (_, σ1) => K ys σ1
         | none => False)
       | false => False
     | false => False
   | _ => False
 | _ => False
theorem Aqx {σ : St} {m : Nat} {y : A} {K : List V → St → Prop} (h : yK σ m y K) : ∃ ys σ1, yS σ m y = some (ys, σ1) ∧ K ys σ1 := by
 unfold yK at h
 split at h
 ·split at h
  ·rename_i hm
   exact ⟨_, _, by simp [yS, Nat.eq_of_beq_eq_true hm], h⟩
  exact h.elim
 ·exact ⟨_, _, by simp [yS], h⟩
 ·obtain ⟨T, u, hT, hs, hn, hk⟩ := Jf h
  split at hk
  case h_2 => exact hk.elim
  split at hk
  case h_2 => exact hk.elim
  split at hk
  case h_2 => exact hk.elim
  rename_i hm
  have hm' := Nat.eq_of_beq_eq_true hm
  rcases hk.h with ⟨h1, h2⟩ | ⟨h1, h2⟩
  ·exact ⟨_, _, by simp [yS, hn, hm', h1], h2⟩
  split at h2
  ·rename_i U σ1 ht
   exact ⟨_, _, by simp [yS, hn, hm', h1, ht], h2⟩
  exact h2.elim
 exact h.elim
def Ayi : AOp → Bool
 | .mov .. => true
 | .pick .. => true
 | .bin .. => true
 | .binb .. => true
 | .un .. => true
 | .cnv .. => true
 | .len .. => true
 | .ext .. => true
 | .iad .. => true
 | .aad .. => true
 | .fadr .. => true
 | .ld .. => true
 | .nck .. => true
 | .mk .. => true
 | .mkc .. => true
 | .mkr .. => true
 | .bslr .. => true
 | .alc .. => true
 | .mkf .. => true
 | .slc .. => true
 | .sidx .. => true
 | .mkm .. => true
 | .mlk .. => true
 | .bstr .. => true
 | _ => false
def Axc {α : Type} (f : α → V) (l : List α) (i : Nat) : List V := (l.map f).set i .dead
def holeW {α : Type} (f : α → V) (l : List α) (i : Nat) (v : V) : List V := (l.map f).set i v
def Ac4 (σ : St) (a : A) (K : V → St → Prop) : Prop := match a with
 | .ref r (c :: p) => (match look σ r with
   | .val T => Aju (c :: p) T fun u => L1 (c :: p) T .dead fun T' => K u (turnP r T' (c :: p) σ)
   | _ => False)
 | a => match I9 σ a with
   | some (v, σ') => K v σ'
   | none => False
theorem Rl {σ : St} {a : A} {K : V → St → Prop} (h : Ac4 σ a K) : ∃ v σ', I9 σ a = some (v, σ') ∧ K v σ' := by
 unfold Ac4 at h
 split at h
 ·rename_i r c p
  split at h
  case h_2 => exact h.elim
  rename_i T hT
  obtain ⟨u, h1, h2⟩ := U5 h
  obtain ⟨T', h3, h4⟩ := Fi h2
  exact ⟨u, _, by simp only [I9, Hi, hT, h1, h3], h4⟩
 split at h
 ·exact ⟨_, _, by assumption, h⟩
 exact h.elim
def At7 (o : AOp) (σ : St) (K : St → Prop) : Prop := match o with
 | .mup m k v => match Ah σ m, Ah σ k, Ah σ v with
   | .ref r p, .val (.str s), .val u => match vLf u with
     | some x => match look σ r with
       | .val T => Aju p T fun nd => match nd with
         | .mp o es => (match o with
           | true => MsQ es s x fun es' => L1 p T (.mp true es') fun T' => B8 (Hr r T' (p.length + 1) σ) K
           | false => False)
         | _ => False
       | _ => False
     | none => False
   | _, _, _ => False
 | .bsl d m ps => match Mr σ (ps.map (Ah σ)) with
   | some (Us, σ1) => BslQ d m Us fun l => B8 (Az d (.val (.sl true m l)) σ1) K
   | none => False
 | .app d m x y => yK σ m (Ah σ y) fun ys σ1 => Ac4 σ1 (Ah σ1 x) fun v σ2 => match v with
   | .sl o m' xs => (match o with
     | true => (match Nat.beq m' m with
       | true => AppQ d xs ys fun l => B8 (Az d (.val (.sl true m l)) σ2) K
       | false => False)
     | false => False)
   | _ => False
 | .slt d m x hi => match Al6 (Ah σ hi) with
   | some h => Ac4 σ (Ah σ x) fun v σ2 => match v with
     | .sl o m' xs => (match o with
       | true => (match Nat.beq m' m with
         | true => SlcQ xs 0 h fun ys => B8 (Az d (.val (.sl true m ys)) σ2) K
         | false => False)
       | false => False)
     | _ => False
   | none => False
 | .idx d m n ag x i => match Ah σ i with
   | .val (.int k j) => Ask (0 ≤ j ∧ j < n) (Idx j 0 n fun j => Amk (if Alf σ (Ah σ x) then Awa d m n ag (Ah σ x) (.val (.int k j)) σ else none) K)
   | _ => False
 | .st n x v => match I9 σ (Ah σ v) with
   | some (U, σ1) => match F9 σ1 (Ah σ1 x) with
     | some (.own r p c) => match look σ1 r with
       | .val T => Aju p T fun nd => match nd.node && decide (U.cells.length = n) && C4 U.cells with
         | true => SetKids nd c U.cells fun nd' => L1 p T nd' fun T' => B8 (Hr r T' (p.length + 1) σ1) K
         | false => False
       | _ => False
     | _ => False
   | none => False
 | o => Amk (Cc o σ) K
theorem Aog {o : AOp} {σ : St} {K : St → Prop} (h : At7 o σ K) : ∃ σ', Cc o σ = some σ' ∧ K σ' := by
 unfold At7 at h
 split at h
 ·rename_i m k v
  split at h
  case h_2 => exact h.elim
  rename_i r p s u hm hk hv
  split at h
  case h_2 => exact h.elim
  rename_i x hx
  split at h
  case h_2 => exact h.elim
  rename_i T hT
  obtain ⟨nd, hs, hq⟩ := U5 h
  split at hq
  case h_2 => exact hq.elim
  rename_i o es
  split at hq
  case h_2 => exact hq.elim
  obtain ⟨T', h1, h2⟩ := Fi hq.h
  rw [A6] at h2
  exact ⟨_, by simp [Cc, Avn, hm, hk, hv, hT, hs, Du, An8, hx, h1], h2⟩
 ·rename_i d m ps
  split at h
  ·rename_i Us σ1 hU
   obtain ⟨h1, h2⟩ := h.h
   rw [A6] at h2
   exact ⟨_, by simp [Cc, An4, hU, h1], h2⟩
  exact h.elim
 ·rename_i d m x y
  obtain ⟨ys, σ1, hy, hk⟩ := Aqx h
  obtain ⟨v, σ2, hX, hk⟩ := Rl hk
  split at hk
  case h_2 => exact hk.elim
  rename_i o m' xs
  split at hk
  case h_2 => exact hk.elim
  split at hk
  case h_2 => exact hk.elim
  rename_i hm
  have hm' := Nat.eq_of_beq_eq_true hm
  obtain ⟨h1, h2, h3⟩ := hk.h
  rw [A6] at h3
  exact ⟨_, by simp [Cc, Asq, hy, hX, hm', h1, h2], h3⟩
 ·rename_i d m x hi
  split at h
  case h_2 => exact h.elim
  rename_i hh hn
  obtain ⟨v, σ2, hX, hk⟩ := Rl h
  split at hk
  case h_2 => exact hk.elim
  rename_i o m' xs
  split at hk
  case h_2 => exact hk.elim
  split at hk
  case h_2 => exact hk.elim
  rename_i hm
  have hm' := Nat.eq_of_beq_eq_true hm
  obtain ⟨_, h1, h2, h3⟩ := hk.h
  rw [A6] at h3
  exact ⟨_, by simp only [Cc, At9, hn, hX, hm', h1, h2, and_self, if_true], h3⟩
 ·rename_i d m n ag x i
  split at h
  case h_2 => exact h.elim
  rename_i hi
  obtain ⟨σ', h1, h2⟩ := Aef (h.x.h h.p.1 h.p.2)
  exact ⟨σ', by simp only [Cc, hi]; exact h1, h2⟩
 ·rename_i n x v
  split at h
  case h_2 => exact h.elim
  rename_i U σ1 ht
  split at h
  case h_2 => exact h.elim
  rename_i r p c hl
  split at h
  case h_2 => exact h.elim
  rename_i T hT
  obtain ⟨u, hs, hk⟩ := U5 h
  split at hk
  case h_2 => exact hk.elim
  rename_i hc
  obtain ⟨nd', h1, h2⟩ := hk.h
  obtain ⟨T', h3, h4⟩ := Fi h2
  rw [A6] at h4
  exact ⟨_, by simp only [Cc, Ak3, ht, hl, hT, hs, hc, h1, h3, if_true], h4⟩
 exact Aef h
def Akf (o : AOp) (σ : St) (K : St → Prop) : Prop := match Ayi o with
 | true => Ad7 o σ fun d a => B8 (Az d a σ) K
 | false => At7 o σ K
theorem Ri {o : AOp} {σ : St} {K : St → Prop} (h : Akf o σ K) : ∃ σ', Cc o σ = some σ' ∧ K σ' := by
 unfold Akf at h
 split at h
 ·obtain ⟨d, a, h1, h2⟩ := Rx h
  rw [A6] at h2
  exact ⟨_, (Ami h1).1, h2⟩
 exact Aog h
structure CallQ (P : Program) (f d : Nat) (vs : List V) (ls : List (Nat × Nat × List Nat)) (rs : List Nat) (K : St → Prop) (σ : St) : Prop where
 h : Js σ ls rs = true ∧ Tri P f vs (Fo d ls rs K σ)
structure CallP (P : Program) (f d : Nat) (vs : List V) (rs : List Nat) (K : V → Prop) : Prop where
 h : ∃ v, Tri P f vs (fun res _ => res = v ∧ Ea rs v = true) ∧ K v
structure CloQ (P : Program) (f d : Nat) (cs vs : List V) (rs : List Nat) (K : St → Prop) (σ : St) : Prop where
 h : Tri P f (vs ++ fzL cs) (Fo d [] rs K σ)
def Aqq (σ : St) (a : A) (io : Bool) (k : Nat) (K : V → List (Nat × Nat × List Nat) → List Nat → Prop) : Prop := match a with
 | .val v => K v.fz [] []
 | .ref r p => Zf (look σ r) p fun u => match io && u.node with
   | true => K u [(k, r, p)] []
   | false => K u.fz [] [r]
 | a => match Mj σ a with
   | some v => K v [] a.roots
   | none => False
def Abk (σ : St) : List (A × Bool) → Nat → (List V → List (Nat × Nat × List Nat) → List Nat → Prop) → Prop
 | [], _, K => K [] [] []
 | (a, io) :: rest, k, K => Aqq σ a io k fun v ls' rs' => Abk σ rest (k + 1) fun vs ls rs => K (v :: vs) (ls' ++ ls) (rs' ++ rs)
theorem Ar8 {σ : St} {a : A} {io : Bool} {k : Nat} {K : V → List (Nat × Nat × List Nat) → List Nat → Prop} (h : Aqq σ a io k K) :
  (∃ r p u, io = true ∧ Qt σ a = some (r, p, u) ∧ K u [(k, r, p)] []) ∨ ((io = true → Qt σ a = none) ∧ ∃ v, Mj σ a = some v ∧ K v [] a.roots) := by
 cases a with
 | val v => exact .inr ⟨fun _ => rfl, _, rfl, h⟩
 | ref r p =>
   obtain ⟨T, u, hT, hs, hn, hk⟩ := Jf h
   split at hk
   ·rename_i hb
    simp only [Bool.and_eq_true] at hb
    exact .inl ⟨r, p, u, hb.1, by simp [Qt, hn, hb.2], hk⟩
   ·rename_i hb
    refine .inr ⟨fun hi => ?_, u.fz, by simp [Mj, hn], hk⟩
    simp only [Qt, hn]
    cases hu : u.node with
    | false => rfl
    | true => rw [hi, hu] at hb; cases hb
 | top => simp [Aqq, Mj] at h
 | addr r p c => simp [Aqq, Mj] at h
 | fad cs => simp [Aqq, Mj] at h
 | agg as =>
   simp only [Aqq] at h
   split at h
   ·exact .inr ⟨fun _ => rfl, _, by assumption, h⟩
   ·exact h.elim
 | clo f as =>
   simp only [Aqq] at h
   split at h
   ·exact .inr ⟨fun _ => rfl, _, by assumption, h⟩
   ·exact h.elim
theorem Ms {σ : St} : ∀ {as : List (A × Bool)} {k : Nat} {K : List V → List (Nat × Nat × List Nat) → List Nat → Prop}, Abk σ as k K → ∃ vs ls rs, Ec σ as k = some (vs, ls, rs) ∧ K vs ls rs := by
 intro as
 induction as with
 | nil => intro k K h; exact ⟨[], [], [], rfl, h⟩
 | cons e rest ih =>
   intro k K h
   obtain ⟨a, io⟩ := e
   simp only [Abk] at h
   rcases Ar8 h with ⟨r, p, u, h1, h2, h3⟩ | ⟨h1, v, h2, h3⟩
   ·obtain ⟨vs, ls, rs, h4, h5⟩ := ih h3
    exact ⟨_, _, _, by simp [Ec, h4, h1, h2], h5⟩
   ·obtain ⟨vs, ls, rs, h4, h5⟩ := ih h3
    refine ⟨_, _, _, ?_, h5⟩
    simp only [Ec, h4]
    have : (if io = true then Qt σ a else none) = none := by split <;> simp_all
    simp [this, h2]
structure LendQ (P : Program) (f d n : Nat) (bs : List A) (vs : List V) (ls : List (Nat × Nat × List Nat)) (rs : List Nat) (K : St → Prop) (σ : St) : Prop where
 h : Js σ ls rs = true ∧ Tri P f (Ag8 n bs.length vs) (Qk n (Fo d ls rs K σ))
def Aq4 (P : Program) (f d : Nat) (as : List (A × Bool)) (K : St → Prop) (σ : St) : Prop := match Km as with
 | some (pre, bs, rest) => Abk σ (pre ++ (bs.map (·, true) ++ rest)) 0 fun vs ls rs => LendQ P f d pre.length bs vs ls rs K σ
 | none => Abk σ as 0 fun vs ls rs => CallQ P f d vs ls rs K σ
def opK (P : Program) (o : AOp) (σ : St) (K : St → Prop) : Prop := match o with
 | .call d f as => Aq4 P f d (Ew σ as) K σ
 | .cally d x as ms => match Ah σ x with
   | .val (.clo f cs) => Abk σ (Ew σ (as.map (·, false))) 0 fun vs ls rs => match ls with
     | [] => CloQ P f d cs vs rs K σ
     | _ => False
   | .val (.fclo f cs) => Abk σ (Ew σ (as.map (·, false))) 0 fun vs ls rs => match ls with
     | [] => CloQ P f d cs vs rs K σ
     | _ => False
   | .clo f cs => Aq4 P f d (Ew σ (as.map (·, false)) ++ Afu ms cs) K σ
   | _ => False
 | .slc d m (.t s) lo hi => (match look σ s with
   | .val T => (match T.hasOwn with
     | true => B8 (Afl s σ) fun σ' => Akf (.slc d m (.t s) lo hi) σ' K
     | false => Akf (.slc d m (.t s) lo hi) σ K)
   | _ => Akf (.slc d m (.t s) lo hi) σ K)
 | o => Akf o σ K
theorem Ad9 {P : Program} {f d : Nat} {as : List (A × Bool)} {K : St → Prop} {σ : St} (h : Aq4 P f d as K σ) : Jm P f d as K σ := by
 unfold Aq4 at h
 unfold Jm
 split at h
 ·rename_i e
  simp only [e]
  obtain ⟨vs, ls, rs, h1, h2⟩ := Ms h
  rw [h1]; exact h2.h
 rename_i e
 simp only [e]
 obtain ⟨vs, ls, rs, h1, h2⟩ := Ms h
 rw [h1]; exact h2.h
theorem Agy {σ : St} : ∀ (cs : List V) (k : Nat), Ec σ (cs.map fun c => (A.val c, false)) k = some (fzL cs, [], []) := by
 intro cs
 induction cs with
 | nil => intro k; rfl
 | cons c r ih => intro k; simp [Ec, ih, Mj, fzL, A.roots]
theorem Abp {σ : St} {bs : List (A × Bool)} {us : List V} (hb : ∀ k, Ec σ bs k = some (us, [], [])) : ∀ {as : List (A × Bool)} {k : Nat} {vs ls rs}, Ec σ as k = some (vs, ls, rs) →
  Ec σ (as ++ bs) k = some (vs ++ us, ls, rs) := by
 intro as
 induction as with
 | nil => intro k vs ls rs h; simp [Ec] at h; obtain ⟨rfl, rfl, rfl⟩ := h; exact hb k
 | cons e rest ih =>
   intro k vs ls rs h
   obtain ⟨a, io⟩ := e
   simp only [Ec] at h
   split at h
   ·cases h
   ·rename_i vs' ls' rs' h1
    simp only [List.cons_append, Ec, ih h1]
    split at h
    ·rename_i r p u h2
     cases h
     rfl
    ·rename_i h2
     split at h
     ·rename_i v h3
      cases h
      rfl
     ·cases h
theorem Ah2 {σ : St} {xs : List X} {cs : List V} : Km (Ew σ (xs.map (·, false)) ++ cs.map fun c => (A.val c, false)) = none := by
 refine Aay fun e he => ?_
 rcases List.mem_append.1 he with h | h
 ·obtain ⟨y, hy, rfl⟩ := List.mem_map.1 h
  obtain ⟨z, hz, rfl⟩ := List.mem_map.1 hy
  rfl
 obtain ⟨y, hy, rfl⟩ := List.mem_map.1 h
 rfl
theorem Acy {P : Program} {o : AOp} {σ : St} {K : St → Prop} (h : opK P o σ K) : Vj P o K σ := by
 unfold opK at h
 unfold Vj
 split at h
 ·exact Ad9 h
 ·split at h
  ·rename_i e
   obtain ⟨vs, ls, rs, h1, h2⟩ := Ms h
   split at h2
   case h_2 => exact h2.elim
   simp only [e, Abt]
   unfold Jm
   rw [Ah2]
   simp only
   rw [Abp (fun k => Agy _ k) h1]
   exact ⟨rfl, h2.h⟩
  ·rename_i e
   obtain ⟨vs, ls, rs, h1, h2⟩ := Ms h
   split at h2
   case h_2 => exact h2.elim
   simp only [e, Abt]
   unfold Jm
   rw [Ah2]
   simp only
   rw [Abp (fun k => Agy _ k) h1, Ab0]
   exact ⟨rfl, h2.h⟩
  ·rename_i e
   simp only [e, Abt]; exact Ad9 h
  exact h.elim
 ·rename_i d m s lo hi
  simp only [Abg]
  split at h
  ·rename_i T hT
   simp only [hT]
   split at h
   ·rename_i ho
    rw [A6] at h
    obtain ⟨σ', e, hk⟩ := Ri h
    simp only [ho]
    rw [e]; exact hk
   rename_i ho
   obtain ⟨σ', e, hk⟩ := Ri h
   simp only [ho]
   rw [e]; exact hk
  rename_i hne
  obtain ⟨σ', e, hk⟩ := Ri h
  split
  ·rename_i σ2 he
   split at he
   ·rename_i T hT; exact absurd hT (hne T)
   rw [e] at he; cases he; exact hk
  rename_i he
  split at he
  ·rename_i T hT; exact absurd hT (hne T)
  rw [e] at he; cases he
 rename_i h1 h2 h3
 obtain ⟨σ', e, hk⟩ := Ri h
 have hp : Abg o σ = σ := by
  unfold Abg
  split
  ·exact absurd rfl (h3 _ _ _ _ _)
  ·rfl
 split
 ·exact absurd rfl (h1 _ _ _)
 ·exact absurd rfl (h2 _ _ _ _)
 rw [hp, e]; exact hk
def Apz (P : Program) (o : AOp) (σ : St) (K : St → Prop) : Prop := match o with
 | .call d f as => (match Ake as with
   | [] => opK P (.call d f as) σ K
   | _ :: _ => B8 (Aah as σ) fun τ => opK P (.call d f as) τ K)
 | o => opK P o σ K
theorem Afy {P : Program} {o : AOp} {σ : St} {K : St → Prop} (h : Apz P o σ K) : Oj P o K σ := by
 unfold Apz at h
 unfold Oj
 split at h
 ·simp only [Wh]
  split at h
  ·rename_i e
   simp only [e]
   exact Acy h
  rename_i e
  rw [A6] at h
  simp only [e]
  exact Acy h
 rename_i h1
 have hp : Wh o σ = σ := by
  unfold Wh
  split
  ·exact absurd rfl (h1 _ _ _)
  ·rfl
 rw [hp]
 exact Acy h
def P9 (P : Program) : List G → (St → Prop) → St → Prop
 | [], K, σ => K σ
 | ⟨none, o⟩ :: r, K, σ => Apz P o σ (P9 P r K)
 | ⟨some (s, true), o⟩ :: r, K, σ => match look σ s with
   | .val (.bool b) => Br b (B8 (L3 s true σ) fun τ => Apz P o τ (P9 P r K)) (B8 (X1 o (L3 s false σ)) (P9 P r K))
   | .val (.tup []) => B8 (X1 o σ) (P9 P r K)
   | _ => False
 | ⟨some (s, false), o⟩ :: r, K, σ => match look σ s with
   | .val (.bool b) => Br b (B8 (X1 o (L3 s true σ)) (P9 P r K)) (B8 (L3 s false σ) fun τ => Apz P o τ (P9 P r K))
   | .val (.tup []) => B8 (X1 o σ) (P9 P r K)
   | _ => False
theorem Ro {P : Program} : ∀ {gs : List G} {K : St → Prop} {σ : St}, P9 P gs K σ → E7 P gs K σ := by
 intro gs
 induction gs with
 | nil => intro K σ h; exact h
 | cons x r ih =>
   intro K σ h
   obtain ⟨g, o⟩ := x
   have run : ∀ {τ}, Apz P o τ (P9 P r K) → Oj P o (E7 P r K) τ := fun h => Kt (fun _ => ih) (Afy h)
   match g, h with
   | none, h => exact run h
   | some (s, true), h =>
     simp only [P9] at h
     simp only [E7]
     split at h
     ·rename_i b hb
      simp only [hb]
      refine ⟨fun e => ?_, fun e => ?_⟩
      ·subst e
       have := h.t rfl
       rw [A6, Ph hb] at this
       exact run this
      ·have e' : b = false := by simpa using e
       subst e'
       have := h.f rfl
       rw [A6, Ph hb] at this
       exact ih this
     ·rename_i hb
      simp only [hb]
      rw [A6] at h; exact ih h
     ·exact h.elim
   | some (s, false), h =>
     simp only [P9] at h
     simp only [E7]
     split at h
     ·rename_i b hb
      simp only [hb]
      refine ⟨fun e => ?_, fun e => ?_⟩
      ·subst e
       have := h.f rfl
       rw [A6, Ph hb] at this
       exact run this
      ·have e' : b = true := by simpa using e
       subst e'
       have := h.t rfl
       rw [A6, Ph hb] at this
       exact ih this
     ·rename_i hb
      simp only [hb]
      rw [A6] at h; exact ih h
     ·exact h.elim
def yNK (σ : St) (m s : Nat) (y : A) (K : List V → Prop) : Prop := match y with
 | .val (.sl _ m' ys) => (match Nat.beq m' m with
   | true => K ys
   | false => False)
 | .val (.nilsl _) => K []
 | .ref r p => (match Nat.beq r s with
   | true => False
   | false => Zf (look σ r) p fun u => match u with
     | .sl o m' ys => (match o with
       | true => (match Nat.beq m' m with
         | true => NoOwn ys (K ys) False
         | false => False)
       | false => False)
     | _ => False)
 | _ => False
theorem Avl {σ : St} {m s : Nat} {y : A} {K : List V → Prop} (h : yNK σ m s y K) : ∃ ys, yN σ m s y = some ys ∧ K ys := by
 unfold yNK at h
 split at h
 ·split at h
  ·rename_i hm
   exact ⟨_, by simp [yN, Nat.eq_of_beq_eq_true hm], h⟩
  exact h.elim
 ·exact ⟨_, by simp [yN], h⟩
 ·split at h
  ·exact h.elim
  rename_i hrs
  obtain ⟨T, u, hT, hs, hn, hk⟩ := Jf h
  split at hk
  case h_2 => exact hk.elim
  split at hk
  case h_2 => exact hk.elim
  split at hk
  case h_2 => exact hk.elim
  rename_i hm
  have hm' := Nat.eq_of_beq_eq_true hm
  have hne : ∀ {r : Nat}, Nat.beq r s = false → r ≠ s := by
   intro r h1 h2; subst h2; simp at h1
  rcases hk.h with ⟨h1, h2⟩ | ⟨_, h2⟩
  ·exact ⟨_, by simp [yN, hn, hm', h1, hne hrs], h2⟩
  exact h2.elim
 exact h.elim
def Aie : List Nat → (List Nat → Prop) → Prop
 | [], K => K []
 | n :: r, K => Aie r fun s => K (n :: s)
theorem Aka : ∀ (l : List Nat) (K : List Nat → Prop), Aie l K = K l := by
 intro l
 induction l with
 | nil => intro K; rfl
 | cons n r ih => intro K; simp only [Aie]; rw [ih]
def Apt (P : Program) (o : AOp) (σ : St) (K : Nat → A → List Nat → Prop) : Prop := match o with
 | .call d f as => match as.all (fun e => !e.2) with
   | true => Abk σ (Ew σ as) 0 fun vs ls rs => match ls with
     | [] => CallP P f d vs rs fun v => K d (.val v) []
     | _ => False
   | false => False
 | .app d m (.t s) y => (match look σ s with
   | .val (.sl o m' xs) => (match o with
     | true => (match Nat.beq m' m with
       | true => yNK σ m s (Ah σ y) fun ys => AppQ d xs ys fun l => K d (.val (.sl true m l)) [s]
       | false => False)
     | false => False)
   | _ => False)
 | .bsl d m ps => (match Oe σ ps with
   | some (Us, ks) => BslQ d m Us fun l => Aie ks fun ks => K d (.val (.sl true m l)) ks
   | none => False)
 | .asg d (.t s) => (match look σ s with
   | .val v => (match v.hasOwn with
     | true => R8 (.val v) fun a => K d a [s]
     | false => R8 (.val v.up) fun a => K d a [])
   | _ => False)
 | o => Ad7 o σ fun d a => K d a []
theorem Amf {P : Program} {o : AOp} {σ : St} {K : Nat → A → List Nat → Prop} (h : Apt P o σ K) : Pr P o σ K := by
 unfold Apt at h
 unfold Pr
 split at h
 ·split at h
  case h_2 => exact h.elim
  rename_i hio
  refine ⟨hio, ?_⟩
  obtain ⟨vs, ls, rs, h1, h2⟩ := Ms h
  split at h2
  case h_2 => exact h2.elim
  rw [h1]
  exact h2.h
 ·split at h
  case h_2 => exact h.elim
  rename_i hL
  split at h
  case h_2 => exact h.elim
  split at h
  case h_2 => exact h.elim
  rename_i hm
  obtain ⟨ys, h1, h2⟩ := Avl h
  simp only [hL, h1]
  obtain ⟨k1, k2, k3⟩ := h2.h
  exact ⟨⟨trivial, Nat.eq_of_beq_eq_true hm, k1, k2⟩, k3⟩
 ·split at h
  case h_2 => exact h.elim
  rename_i ht
  obtain ⟨k1, k2⟩ := h.h
  rw [Aka] at k2
  simp only [ht]
  exact ⟨k1, k2⟩
 ·split at h
  case h_2 => exact h.elim
  rename_i hL
  split at h
  ·rename_i hv
   rw [Mw] at h
   simp only [hL, hv]; exact h
  rename_i hv
  rw [Mw] at h
  simp only [hL, hv]; exact h
 rename_i h1 h2 h3 h4
 obtain ⟨d, a, e, hk⟩ := Rx h
 split
 ·exact absurd rfl (h1 _ _ _)
 ·exact absurd rfl (h2 _ _ _ _)
 ·exact absurd rfl (h3 _ _ _)
 ·exact absurd rfl (h4 _ _)
 rw [e]; exact hk
def hk (hide kl : List Nat) : List Nat := match kl with
 | [] => hide
 | k :: r => hide ++ (k :: r)
theorem Aox (hide kl : List Nat) : hk hide kl = hide ++ kl := by
 cases kl with
 | nil => simp [hk]
 | cons k r => rfl
def Auv (acc : St) (kl : List Nat) : Bool := match kl with
 | [] => true
 | k :: r => M6 acc (k :: r)
theorem Ajv {acc : St} {kl : List Nat} (h : Auv acc kl = true) : M6 acc kl = true := by
 cases kl with
 | nil => unfold M6; simp
 | cons k r => exact h
def Aq8 (kl : List Nat) (acc : St) : St := match kl with
 | [] => acc
 | k :: r => D7 (k :: r) acc
theorem Am0 (kl : List Nat) (acc : St) : Aq8 kl acc = D7 kl acc := by
 cases kl with
 | nil =>
   simp only [Aq8]
   induction acc with
   | nil => rfl
   | cons e r ih => obtain ⟨d, a⟩ := e; simp [D7, ← ih]
 | cons k r => rfl
structure LendP (P : Program) (f d : Nat) (vs : List V) (rs : List Nat) (k : Nat) (p : List Nat) (T : V) (K : V → V → Prop) : Prop where
 h : ∃ v u T', Tri P f vs (fun res outs => res = v ∧ outs[k]? = some u) ∧ (Ea rs v = true ∧ Ea rs u = true ∧ u.node = true ∧ upd p T u = some T') ∧ K v T'
def Akz (P : Program) (o : AOp) (s : Nat) (σ : St) (K : Nat → V → Nat × V × Nat → Prop) : Prop := match o with
 | .call d f as => (match Km (Ew σ as) with
   | some _ => False
   | none => Abk σ (Ew σ as) 0 fun vs ls rs => match ls with
     | [(k, r, p)] => (match Nat.beq r s && !rs.contains r with
       | true => (match look σ r with
         | .val T => LendP P f d vs rs k p T fun v T' => K d v (r, T', p.length + 1)
         | _ => False)
       | false => False)
     | _ => False)
 | _ => False
theorem Ai2 {P : Program} {o : AOp} {s : Nat} {σ : St} {K : Nat → V → Nat × V × Nat → Prop} (h : Akz P o s σ K) : Wu P o s σ K := by
 unfold Akz at h
 unfold Wu
 split at h
 case h_2 => exact h.elim
 split at h
 ·exact h.elim
 rename_i hgv
 obtain ⟨vs, ls, rs, h1, h2⟩ := Ms h
 split at h2
 case h_2 => exact h2.elim
 rename_i k r p
 split at h2
 case h_2 => exact h2.elim
 rename_i hb
 simp only [Bool.and_eq_true, Bool.not_eq_true'] at hb
 split at h2
 case h_2 => exact h2.elim
 rename_i T hT
 simp only [hgv, h1, hT]
 exact ⟨⟨Nat.eq_of_beq_eq_true hb.1, hb.2⟩, h2.h⟩
def Ahq (ls hide : List Nat) (cs : List (Nat × V × Nat)) (σ : St) : St := match ls with
 | [] => σ
 | l :: q => Mb (l :: q) hide cs σ
theorem As0 (σ : St) : Y7 [] σ = σ := by
 induction σ with
 | nil => rfl
 | cons e r ih =>
   obtain ⟨k, a⟩ := e
   simp [Y7, ih]
theorem Atu {ls hide : List Nat} {cs : List (Nat × V × Nat)} {σ : St} (hc : ∀ c ∈ cs, ls.contains c.1 = true) : Ahq ls hide cs σ = Mb ls hide cs σ := by
 cases ls with
 | nil =>
   have : cs = [] := by
    cases cs with
    | nil => rfl
    | cons c q => have := hc c (by simp); simp at this
   subst this
   simp only [Ahq, Mb, List.filter_nil, F8]
   have : (List.filter (fun x => ([] : List Nat).contains x) hide) = [] := by simp
   rw [this, As0]
 | cons l q => rfl
abbrev Apd := St → List Nat → List (Nat × V × Nat) → (St → Prop) → Prop
def Arj (σ0 acc : St) (o : AOp) (hide kl : List Nat) (cs : List (Nat × V × Nat)) (K : St → Prop) (ih : Apd) (acc1 : St) (d : Nat) (a : A) (ks : List Nat) : Prop := match Q9 d acc σ0 with
 | true => (match ks with
   | [] => B8 (acc1 ++ [(d, a.mapR (At d 0))]) fun acc' => ih acc' kl cs K
   | k :: q => (match Zk (k :: q) o (D7 (hk hide kl) acc) with
     | true => B8 (acc1 ++ [(d, a.mapR (At d 0))]) fun acc' => Aie (kl ++ (k :: q)) fun kl' => ih acc' kl' cs K
     | false => False))
 | false => False
def X5 (σ0 acc : St) (o : AOp) (kl : List Nat) (cs : List (Nat × V × Nat)) (K : St → Prop) (ih : Apd) (acc1 : St) : Prop := match o.dst with
 | some d => (match Q9 d acc σ0 with
   | true => B8 (acc1 ++ [(d, .val (.tup []))]) fun acc' => ih acc' kl cs K
   | false => False)
 | none => False
def Af1 (P : Program) (ls : List Nat) (σ0 acc : St) (o : AOp) (hide kl : List Nat) (cs : List (Nat × V × Nat)) (K : St → Prop) (ih : Apd) (acc1 : St) : Prop :=
 B8 (D7 (hk hide kl) acc1 ++ Ahq ls hide cs σ0) fun σh => Apt P o σh (Arj σ0 acc o hide kl cs K ih acc1)
def Aqv (P : Program) (ls : List Nat) (σ0 acc : St) (o : AOp) (s : Nat) (hide kl : List Nat) (cs : List (Nat × V × Nat)) (K : St → Prop) (ih : Apd) : Prop :=
 B8 (D7 (hk hide kl) acc ++ Ahq ls hide.tail cs σ0) fun σh => Akz P o s σh fun d v c => match Q9 d acc σ0 && ls.contains s && Aqo (look σ0 s) && Nat.beq c.1 s with
  | true => B8 (acc ++ [(d, .val v)]) fun acc' => ih acc' kl (cs ++ [c]) K
  | false => False
def Ab8 (P : Program) (ls : List Nat) (σ0 : St) (x : G × List Nat) (ih : Apd) (acc : St) (kl : List Nat) (cs : List (Nat × V × Nat)) (K : St → Prop) : Prop := match x with
 | (⟨none, o⟩, hide) => (match Lu o hide with
   | [] => Af1 P ls σ0 acc o hide kl cs K ih acc
   | s :: _ => Aqv P ls σ0 acc o s hide kl cs K ih)
 | (⟨some (s, true), o⟩, hide) => (match (hk hide kl).contains s || !(Lu o hide).isEmpty with
   | true => False
   | false => (match look (D7 (hk hide kl) acc ++ Ahq ls hide cs σ0) s with
     | .val (.bool b) => Br b (Af1 P ls σ0 acc o hide kl cs K ih (L3 s true acc)) (X5 σ0 acc o kl cs K ih (L3 s false acc))
     | .val (.tup []) => X5 σ0 acc o kl cs K ih acc
     | _ => False))
 | (⟨some (s, false), o⟩, hide) => (match (hk hide kl).contains s || !(Lu o hide).isEmpty with
   | true => False
   | false => (match look (D7 (hk hide kl) acc ++ Ahq ls hide cs σ0) s with
     | .val (.bool b) => Br b (X5 σ0 acc o kl cs K ih (L3 s true acc)) (Af1 P ls σ0 acc o hide kl cs K ih (L3 s false acc))
     | .val (.tup []) => X5 σ0 acc o kl cs K ih acc
     | _ => False))
def Aqb (σ0 acc : St) (kl : List Nat) (cs : List (Nat × V × Nat)) (K : St → Prop) : Prop := match Auv acc kl with
 | true => (match cs with
   | [] => B8 (Aq8 kl acc ++ σ0) K
   | c :: q => (match Ad5 acc (c :: q) with
     | true => B8 (Aq8 kl acc ++ F8 (c :: q) σ0) K
     | false => False))
 | false => False
def Akb (P : Program) (ls : List Nat) (σ0 : St) (l : List (G × List Nat)) : Apd :=
 List.rec (motive := fun _ => Apd) (Aqb σ0) (fun x _ ih => Ab8 P ls σ0 x ih) l
theorem Uz {hide : List Nat} {acc σ0 : St} {s : Nat} {b : Bool} (h : look (D7 hide acc ++ σ0) s = .val (.bool b)) (hh : hide.contains s = false) : L3 s b acc = acc := by
 rw [Fl] at h
 split at h
 ·rw [Zi _ _ _ hh] at h
  exact Ph h
 rename_i hk
 rw [Yc] at hk
 have hk' : A7 s acc = false := by
  rw [hh] at hk; simpa using hk
 clear h hk
 induction acc with
 | nil => rfl
 | cons e r ih =>
   obtain ⟨k, a⟩ := e
   simp only [A7, Bool.or_eq_false_iff, beq_eq_false_iff_ne] at hk'
   simp only [L3]
   rw [show Nat.beq k s = false by
    cases hb : Nat.beq k s with
    | false => rfl
    | true => exact absurd (Nat.eq_of_beq_eq_true hb) hk'.1]
   simp only [ih hk'.2]
theorem Aqd {P : Program} {o : AOp} {σ : St} {c c' : Nat → A → List Nat → Prop} (h : ∀ d a ks, c d a ks → c' d a ks) (ha : Pr P o σ c) : Pr P o σ c' := Aac h ha
theorem Ad8 {P : Program} {ls : List Nat} {σ0 : St} : ∀ {l : List (G × List Nat)} {acc : St} {kl : List Nat} {cs : List (Nat × V × Nat)} {KS : List (List Nat)} {CS : List (List (Nat × V × Nat))} {K : St → Prop}, KS.flatten = kl → CS.flatten = cs → (∀ c ∈ cs, ls.contains c.1 = true) → Akb P ls σ0 l acc kl cs K → Fs P ls σ0 l acc KS CS K := by
 intro l
 induction l with
 | nil =>
   intro acc kl cs KS CS K hkl hcs hin h
   subst hkl
   change Aqb σ0 acc KS.flatten cs K at h
   simp only [Aqb] at h
   split at h
   ·rename_i hr
    split at h
    ·rw [A6, Am0] at h
     refine ⟨⟨Ajv hr, ?_⟩, ?_⟩
     ·rw [hcs]; unfold Ad5; simp
     ·rw [hcs]; exact h
    ·split at h
     ·rename_i hr2
      rw [A6, Am0] at h
      rw [← hcs] at h hr2
      exact ⟨⟨Ajv hr, hr2⟩, h⟩
     ·exact h.elim
   ·exact h.elim
 | cons x r ih =>
   intro acc kl cs KS CS K hkl hcs hin h
   subst hkl
   obtain ⟨⟨g, o⟩, hide⟩ := x
   change Ab8 P ls σ0 (⟨g, o⟩, hide) (Akb P ls σ0 r) acc KS.flatten cs K at h
   have hbk : ∀ hide, Ahq ls hide cs σ0 = Mb ls hide CS.flatten σ0 := fun hide => by rw [Atu hin, hcs]
   have run : Af1 P ls σ0 acc o hide KS.flatten cs K (Akb P ls σ0 r) acc → Pr P o (D7 (hide ++ KS.flatten) acc ++ Mb ls hide CS.flatten σ0) fun d a ks => (Q9 d acc σ0 = true ∧ Zk ks o (D7 (hide ++ KS.flatten) acc) = true) ∧ Fs P ls σ0 r (acc ++ [(d, a.mapR (At d 0))]) (KS ++ [ks]) (CS ++ [[]]) K := by
    intro h
    unfold Af1 at h
    rw [A6, Aox, hbk] at h
    refine Aqd ?_ (Amf h)
    intro d a ks hk
    unfold Arj at hk
    rw [Aox] at hk
    split at hk
    ·rename_i hf
     split at hk
     ·rw [A6] at hk
      exact ⟨⟨hf, rfl⟩, ih (by simp) (by simp [hcs]) hin hk⟩
     ·split at hk
      ·rename_i hkk
       rw [A6, Aka] at hk
       exact ⟨⟨hf, hkk⟩, ih (by simp) (by simp [hcs]) hin hk⟩
      ·exact hk.elim
    ·exact hk.elim
   have skip : X5 σ0 acc o KS.flatten cs K (Akb P ls σ0 r) acc → (match o.dst with
      | some d => Q9 d acc σ0 = true ∧ Fs P ls σ0 r (acc ++ [(d, .val (.tup []))]) (KS ++ [[]]) (CS ++ [[]]) K
      | none => False) := by
    intro h
    unfold X5 at h
    cases hd : o.dst with
    | none => rw [hd] at h; exact h.elim
    | some d =>
      rw [hd] at h
      cases hf : Q9 d acc σ0 with
      | false => simp only [hf] at h
      | true =>
        simp only [hf] at h
        rw [A6] at h
        exact ⟨hf, ih (by simp) (by simp [hcs]) hin h⟩
   match g, h with
   | none, h =>
     simp only [Ab8] at h
     simp only [Fs]
     cases hlo : Lu o hide with
     | nil => rw [hlo] at h; exact run h
     | cons s q =>
       rw [hlo] at h
       simp only at h ⊢
       unfold Aqv at h
       rw [A6, Aox, hbk] at h
       refine Aea ?_ (Ai2 h)
       intro d v c hc
       split at hc
       case h_2 => exact hc.elim
       rename_i hcond
       simp only [Bool.and_eq_true] at hcond
       rw [A6] at hc
       refine ⟨⟨hcond.1.1.1, hcond.1.1.2, hcond.1.2⟩, ih (by simp) (by simp [hcs]) ?_ hc⟩
       intro c' hc'
       rcases List.mem_append.1 hc' with h1 | h1
       ·exact hin c' h1
       ·simp at h1
        subst h1
        rw [Nat.eq_of_beq_eq_true hcond.2]; exact hcond.1.1.2
   | some (s, true), h =>
     simp only [Ab8, Aox, hbk] at h
     simp only [Fs]
     split at h
     ·exact h.elim
     rename_i hh
     simp only [Bool.or_eq_false_iff, Bool.not_eq_false', List.isEmpty_iff] at hh
     refine ⟨hh.2, ?_⟩
     replace hh := hh.1
     split at h
     ·rename_i b hb
      simp only [hb]
      refine ⟨fun e => ?_, fun e => ?_⟩
      ·subst e
       have := h.t rfl
       rw [Uz hb hh] at this
       exact run this
      ·have e' : b = false := by simpa using e
       subst e'
       have := h.f rfl
       rw [Uz hb hh] at this
       exact skip this
     ·rename_i hb
      simp only [hb]
      exact skip h
     ·exact h.elim
   | some (s, false), h =>
     simp only [Ab8, Aox, hbk] at h
     simp only [Fs]
     split at h
     ·exact h.elim
     rename_i hh
     simp only [Bool.or_eq_false_iff, Bool.not_eq_false', List.isEmpty_iff] at hh
     refine ⟨hh.2, ?_⟩
     replace hh := hh.1
     split at h
     ·rename_i b hb
      simp only [hb]
      refine ⟨fun e => ?_, fun e => ?_⟩
      ·subst e
       have := h.f rfl
       rw [Uz hb hh] at this
       exact run this
      ·have e' : b = true := by simpa using e
       subst e'
       have := h.t rfl
       rw [Uz hb hh] at this
       exact skip this
     ·rename_i hb
      simp only [hb]
      exact skip h
     ·exact h.elim
structure SameQ (x y : A) (K : Prop) : Prop where
 h : x = y ∧ K
def Ali (A : List (Nat × AOp)) (K : St → Prop) : St → Prop :=
 List.rec (motive := fun _ => St → Prop) K (fun e _ ih σ => Ad7 e.2 σ fun d a => match Ze a with
  | true => B8 (Az d a σ) ih
  | false => False) A
def Afw (xs : List Nat) (σ : St) (K : Prop) (A : List (Nat × AOp)) : Prop :=
 List.rec (motive := fun _ => Prop) K (fun e _ ih => match xs.contains e.1 with
  | true => Ad7 e.2 σ fun d a => match Ann a d σ with
    | true => SameQ (look σ d) a ih
    | false => False
  | false => ih) A
def X7 (P : Program) (o : AOp) (ds : List Nat) (σ : St) (K : St → Prop) : Prop := match ds with
 | [] => Apz P o σ K
 | s :: q => (match o with
   | .app d m x y => yK σ m (Ah σ y) fun ys σ1 => Ac4 σ1 (Ah σ1 x) fun v σ2 => match v with
     | .sl o m' xs => (match o with
       | true => (match Nat.beq m' m with
         | true => AppQ d xs ys fun l => B8 (It (s :: q) (Az d (.val (.sl true m l)) σ2)) K
         | false => False)
       | false => False)
     | _ => False
   | .slt d m x hi => (match Al6 (Ah σ hi) with
     | some h => Ac4 σ (Ah σ x) fun v σ2 => match v with
       | .sl o m' xs => (match o with
         | true => (match Nat.beq m' m with
           | true => SlcQ xs 0 h fun ys => B8 (It (s :: q) (Az d (.val (.sl true m ys)) σ2)) K
           | false => False)
         | false => False)
       | _ => False
     | none => False)
   | _ => False)
theorem As1 (σ : St) : It [] σ = σ := by
 have key : ∀ a : A, a.mapR (Agd []) = a := by
  intro a
  have e : Agd [] = fun r _ => some r := by funext r p; simp [Agd]
  rw [e]; exact Arn a
 induction σ with
 | nil => rfl
 | cons e r ih => obtain ⟨k, a⟩ := e; simp [It, ih, key]
theorem Y9 {P : Program} {o : AOp} {ds : List Nat} {σ : St} {K : St → Prop} (h : X7 P o ds σ K) : Oj P o (fun σ' => K (It ds σ')) σ := by
 unfold X7 at h
 split at h
 ·refine Kt (fun σ' hk => ?_) (Afy h)
  rw [As1]; exact hk
 split at h
 case h_3 => exact h.elim
 ·obtain ⟨ys, σ1, hy, hk⟩ := Aqx h
  obtain ⟨v, σ2, hX, hk⟩ := Rl hk
  split at hk
  case h_2 => exact hk.elim
  split at hk
  case h_2 => exact hk.elim
  split at hk
  case h_2 => exact hk.elim
  rename_i hm
  have hm' := Nat.eq_of_beq_eq_true hm
  obtain ⟨h1, h2, h3⟩ := hk.h
  rw [A6] at h3
  simp only [Oj, Wh, Vj, Abg, Cc, Asq, hy, hX, hm', h1, h2]
  simpa using h3
 split at h
 case h_2 => exact h.elim
 rename_i hh hn
 obtain ⟨v, σ2, hX, hk⟩ := Rl h
 split at hk
 case h_2 => exact hk.elim
 split at hk
 case h_2 => exact hk.elim
 split at hk
 case h_2 => exact hk.elim
 rename_i hm
 have hm' := Nat.eq_of_beq_eq_true hm
 obtain ⟨_, h1, h2, h3⟩ := hk.h
 rw [A6] at h3
 simp only [Oj, Wh, Vj, Abg, Cc, At9, hn, hX, hm', h1, h2, and_self, if_true]
 simpa using h3
structure Two (X Y : Prop) : Prop where
 h : X ∧ Y
def Aft (P : Program) (A : List (Nat × AOp)) (K : St → Prop) (pl : LPlan) : Bool → St → Prop :=
 LPlan.rec (motive := fun _ => Bool → St → Prop) (fun b σ => match b with
  | true => K σ
  | false => True) (fun _ x xs ds _ ot ihn iho _ σ => match ot with
    | .nil => Afw xs σ (X7 P x ds σ (ihn true)) A
    | .alt .. => Two (Afw xs σ (X7 P x ds σ (ihn true)) A) (iho false σ)) pl
theorem Aji : ∀ {A : List (Nat × AOp)} {K : St → Prop} {σ}, Ali A K σ → Kc A K σ := by
 intro A
 induction A with
 | nil => intro K σ h; exact h
 | cons e r ih =>
   intro K σ h
   obtain ⟨i, x⟩ := e
   have h' : Ad7 x σ fun d a => match Ze a with
    | true => B8 (Az d a σ) (Ali r K)
    | false => False := h
   obtain ⟨d, a, h1, h2⟩ := Rx h'
   simp only [Kc, h1]
   split at h2
   ·rename_i hu
    rw [A6] at h2
    exact ⟨hu, ih h2⟩
   ·exact h2.elim
theorem Aei {xs : List Nat} {σ : St} {K : Prop} : ∀ {A : List (Nat × AOp)}, Afw xs σ K A → Apq A xs σ ∧ K := by
 intro A
 induction A with
 | nil => intro h; exact ⟨(fun e he => by cases he), h⟩
 | cons e r ih =>
   intro h
   change (match xs.contains e.1 with
    | true => Ad7 e.2 σ fun d a => match Ann a d σ with
      | true => SameQ (look σ d) a (Afw xs σ K r)
      | false => False
    | false => Afw xs σ K r) at h
   split at h
   ·obtain ⟨d, a, h1, h2⟩ := Rx h
    split at h2
    ·rename_i hu
     obtain ⟨h3, h4⟩ := h2.h
     obtain ⟨h5, h6⟩ := ih h4
     refine ⟨fun f hf hx => ?_, h6⟩
     rcases List.mem_cons.1 hf with rfl | hf
     ·exact ⟨d, a, h1, h3, hu⟩
     ·exact h5 f hf hx
    ·exact h2.elim
   ·rename_i hx
    obtain ⟨h5, h6⟩ := ih h
    refine ⟨fun f hf hx2 => ?_, h6⟩
    rcases List.mem_cons.1 hf with rfl | hf
    ·rw [hx] at hx2; cases hx2
    ·exact h5 f hf hx2
theorem Akg {P : Program} {A : List (Nat × AOp)} {K : St → Prop} : ∀ {pl : LPlan} {b : Bool} {σ}, Aft P A K pl b σ → M4 P A K pl b σ := by
 intro pl
 induction pl with
 | nil => intro b σ h hb; subst hb; exact h
 | alt i x xs ds nx ot ih1 ih2 =>
   intro b σ h
   cases ot with
   | nil =>
     change Afw xs σ (X7 P x ds σ (Aft P A K nx true)) A at h
     obtain ⟨h1, h2⟩ := Aei h
     exact ⟨⟨h1, Kt (fun _ => ih1) (Y9 h2)⟩, fun hb => by cases hb⟩
   | alt j y ys es ny oy =>
     change Two (Afw xs σ (X7 P x ds σ (Aft P A K nx true)) A) (Aft P A K (.alt j y ys es ny oy) false σ) at h
     obtain ⟨h1, h2⟩ := Aei h.h.1
     exact ⟨⟨h1, Kt (fun _ => ih1) (Y9 h2)⟩, ih2 h.h.2⟩
def Anw : List Nat → (St → Prop) → St → Prop
 | [], K, σ => K σ
 | e :: r, K, σ => match look σ (e % 100000) with
   | .val T => FrzQ T (e / 100000) fun T' => B8 (Az (e % 100000) (.val T') (Az (e % 100000) .top σ)) (Anw r K)
   | .ref q [] => (match look σ q with
     | .val T => (match Nat.blt q 100000 with
       | true => FrzQ T 0 fun T' => B8 (Az (e % 100000) (.val T') (Az (e % 100000) .top (Az q (.val T') (Az q .top σ)))) (Anw r K)
       | false => Anw r K σ)
     | _ => Anw r K σ)
   | _ => Anw r K σ
theorem Apn : ∀ {ss : List Nat} {K : St → Prop} {σ : St}, Anw ss K σ → K (Auh ss σ) := by
 intro ss
 induction ss with
 | nil => intro K σ h; exact h
 | cons e r ih =>
   intro K σ h
   simp only [Anw] at h
   simp only [Auh]
   split at h
   ·rename_i T hT
    obtain ⟨T', h1, h2⟩ := h.h
    subst h1
    rw [A6] at h2
    simp only [Ai9, Afl, hT]
    exact ih h2
   ·rename_i q hT
    split at h
    ·rename_i T hq
     split at h
     ·rename_i hb
      obtain ⟨T', h1, h2⟩ := h.h
      rw [Au] at h1
      subst h1
      rw [A6] at h2
      simp only [Ai9, hT, hq, hb]
      exact ih h2
     ·rename_i hb
      simp only [Ai9, hT, hq, hb]
      exact ih h
    ·rename_i hne
     have e2 : Ai9 e σ = σ := by
      simp only [Ai9, hT]
     rw [e2]
     exact ih h
   ·rename_i hne hne2
    have e2 : Ai9 e σ = σ := by
     unfold Ai9
     split
     ·rename_i q hq; exact absurd hq (hne2 q)
     ·unfold Afl
      split
      ·rename_i V hV; exact absurd hV (hne V)
      ·rfl
    rw [e2]
    exact ih h
structure LoopQ (P : Program) (c : ACode) (Q : Ex → St → Prop) (σ : St) : Prop where
 h : awp P (.loop c) Q σ
structure CutQ (P : Program) (c : ACode) (Q : Ex → St → Prop) (σ : St) : Prop where
 h : awp P (.cut c) Q σ
def vc (P : Program) : ACode → (Ex → St → Prop) → St → Prop
 | .skip, Q, σ => Q .normal σ
 | .reg gs, Q, σ => P9 P gs (Q .normal) σ
 | .dreg pre post, Q, σ => Akb P (Ru pre) σ pre [] [] [] (P9 P post (Q .normal))
 | .dregp n0 ds pre post, Q, σ => P9 P ((pre.take n0).map (·.1)) (fun σ1 => match Aak n0 (It ds σ1) with
   | true => B8 (It ds σ1) fun σ2 => B8 (Uu n0) fun acc => Akb P (Ru pre) σ2 (pre.drop n0) acc [] [] (P9 P post (Q .normal))
   | false => False) σ
 | .seq a b, Q, σ => vc P a (Y5 (vc P b Q) Q) σ
 | .cond x t e, Q, σ => match Ah σ x with
   | .val (.bool b) => Br b (B8 (Aya x true σ) (vc P t Q)) (B8 (Aya x false σ) (vc P e Q))
   | _ => False
 | .block i c, Q, σ => vc P c (Al2 i Q) σ
 | .loop c, Q, σ => LoopQ P c Q σ
 | .exit i, Q, σ => Q (.exit i) σ
 | .ret, Q, σ => Q .ret σ
 | .drop ds c, Q, σ => B8 (It ds σ) (vc P c Q)
 | .cut c, Q, σ => CutQ P c Q σ
 | .dregl A pl, Q, σ => Ali A (Aft P A (Q .normal) pl true) σ
 | .frz ss c, Q, σ => Anw ss (vc P c Q) σ
theorem Aq6 {x : X} {b : Bool} {σ : St} (h : Ah σ x = .val (.bool b)) : Aya x b σ = σ := by
 cases x with
 | c v => rfl
 | t s =>
   refine Ph ?_
   simp only [Ah] at h
   split at h
   ·rename_i v hv
    split at h
    ·cases h
    ·rw [hv]; exact h
   ·exact h
theorem Wl {P : Program} : ∀ {c : ACode} {Q : Ex → St → Prop} {σ : St}, vc P c Q σ → awp P c Q σ := by
 intro c
 induction c with
 | skip => intro Q σ h; exact h
 | reg gs => intro Q σ h; exact Ro h
 | dreg pre post => intro Q σ h; exact Rj (fun _ => Ro) (Ad8 rfl rfl (by simp) h)
 | dregp n0 ds pre post =>
   intro Q σ h
   refine Nq (fun σ1 h1 => ?_) (Ro h)
   split at h1
   ·rename_i hd
    rw [A6, A6] at h1
    refine ⟨hd, Rj (fun _ => Ro) (Ad8 (by simp) (by simp) (by simp) h1)⟩
   ·exact h1.elim
 | seq a b ih1 ih2 =>
   intro Q σ h
   have h' : vc P a (Y5 (vc P b Q) Q) σ := h
   show awp P a (Y5 (awp P b Q) Q) σ
   exact Qa (Q := Y5 (vc P b Q) Q) (Mp (fun _ hh => ih2 hh) fun _ _ => id) (ih1 h')
 | cond x t e ih1 ih2 =>
   intro Q σ h
   simp only [vc] at h
   simp only [awp]
   split at h
   ·rename_i b hb
    simp only [hb]
    refine ⟨fun e => ?_, fun e => ?_⟩
    ·subst e
     have := h.t rfl
     rw [A6, Aq6 hb] at this
     exact ih1 this
    ·subst e
     have := h.f rfl
     rw [A6, Aq6 hb] at this
     exact ih2 this
   ·exact h.elim
 | block i c ih => intro Q σ h; exact ih h
 | loop c ih => intro Q σ h; exact h.h
 | exit i => intro Q σ h; exact h
 | ret => intro Q σ h; exact h
 | drop ds c ih => intro Q σ h; simp only [vc] at h; rw [A6] at h; exact ih h
 | cut c ih => intro Q σ h; exact h.h
 | frz ss c ih => intro Q σ h; simp only [vc] at h; exact ih (Apn h)
 | dregl A R => intro Q σ h; exact Zd (fun _ => Akg) (Aji h)
theorem Alc {P : Program} {f N : Nat} {ac : ACode} {rs : List RS} {args : List V} {R : V → List V → Prop} (hf : Bd P f N ac rs = true) (hn : args.length ≤ N)
  (h : vc P ac (Ar9 N rs args R) (entry N 0 args)) : Tri P f args R := Aum hf hn (Wl h)
def Ax6 {α : Type} (ks : List Nat) (st : α → St) (inv : α → Prop) (μ : α → Nat) (a : α) (σ : St) : Prop := ∃ b, restrict ks σ = st b ∧ inv b ∧ μ b < μ a
theorem LoopQ.by {α : Type} {P : Program} {c : ACode} {Q : Ex → St → Prop} {σ : St} (ks : List Nat) (st : α → St) (inv : α → Prop) (μ : α → Nat) (a0 : α) (h0 : restrict ks σ = st a0) (hi : inv a0)
  (hr : ∀ a, inv a → vc P c (Y5 (Ax6 ks st inv μ a) Q) (st a)) : LoopQ P c Q σ := by
 refine ⟨Auq ks (fun n σ => ∃ a, σ = st a ∧ inv a ∧ n = μ a) (μ a0) ⟨a0, h0, hi, rfl⟩ ?_⟩
 rintro n σ ⟨a, rfl, ha, rfl⟩
 refine Qa (Mp ?_ fun _ _ => .inl) (Wl (hr a ha))
 rintro σ' ⟨b, h1, h2, h3⟩
 exact ⟨μ b, h3, b, h1, h2, rfl⟩
def Ret (P : Program) (f : Nat) (vs : List V) (v : V) : Prop := Tri P f vs (fun r _ => r = v)
theorem Bg {P : Program} {f N : Nat} {ac : ACode} {rs : List RS} {args : List V} {v : V} (hf : Bd P f N ac rs = true) (hn : args.length ≤ N)
  (h : vc P ac (Ar9 N rs args fun r _ => r = v) (entry N 0 args)) : Ret P f args v := Alc hf hn h
abbrev Ae (n : Int) : V := .int .i64 n
end Go.Proofs.Ytoaojijoefljaaa.Ax
namespace Go.Proofs.Ytoaojijoefljaaa.Ax
open Go
noncomputable def ask {α : Type} (p : Prop) (x : Option α) : Option α := @ite _ p (Classical.propDecidable p) x none
def nth {α : Type} [Inhabited α] (xs : List α) (i : Nat) : α := xs.getD i default
theorem Abl {α : Type} {p : Prop} {x : Option α} {v : α} : ask p x = some v ↔ p ∧ x = some v := by
 unfold ask; split <;> simp_all
theorem Af {α : Type} {p : Prop} {x : Option α} (h : p) : ask p x = x := by unfold ask; rw [if_pos h]
def Ag4 {σ τ : Type} (body : σ → Option (σ ⊕ τ)) : Nat → σ → Option τ
 | 0, _ => none
 | n + 1, s => match body s with
   | none => none
   | some (.inl s') => Ag4 body n s'
   | some (.inr t) => some t
theorem Aqy {σ τ : Type} {body : σ → Option (σ ⊕ τ)} : ∀ {n m : Nat} {s : σ} {t : τ}, n ≤ m → Ag4 body n s = some t → Ag4 body m s = some t := by
 intro n
 induction n with
 | zero => intro m s t _ h; cases h
 | succ n ih =>
   intro m s t hm h
   match m, hm with
   | m + 1, hm =>
     simp only [Ag4] at h ⊢
     split at h
     ·cases h
     ·exact ih (by omega) h
     ·exact h
open Classical in
noncomputable def Ar {σ τ : Type} (body : σ → Option (σ ⊕ τ)) (s : σ) : Option τ := if h : ∃ t n, Ag4 body n s = some t then some (Classical.choose h) else none
theorem Ul {σ τ : Type} {body : σ → Option (σ ⊕ τ)} {s : σ} {t : τ} : Ar body s = some t ↔ ∃ n, Ag4 body n s = some t := by
 unfold Ar
 constructor
 ·intro h
  split at h
  ·rename_i hx
   cases h
   exact Classical.choose_spec hx
  cases h
 rintro ⟨n, hn⟩
 rw [dif_pos ⟨t, n, hn⟩]
 obtain ⟨m, hm⟩ := Classical.choose_spec (⟨t, n, hn⟩ : ∃ t n, Ag4 body n s = some t)
 have h1 := Aqy (Nat.le_max_left n m) hn
 have h2 := Aqy (Nat.le_max_right n m) hm
 rw [h1] at h2
 exact h2.symm
theorem Acc {σ τ : Type} (body : σ → Option (σ ⊕ τ)) (s : σ) : Ar body s = (match body s with
  | none => none
  | some (.inl s') => Ar body s'
  | some (.inr t) => some t) := by
 apply Option.ext
 intro t
 rw [Ul]
 constructor
 ·rintro ⟨n, hn⟩
  cases n with
  | zero => cases hn
  | succ n =>
    simp only [Ag4] at hn
    split at hn
    ·cases hn
    ·exact Ul.2 ⟨n, hn⟩
    ·exact hn
 intro h
 split at h
 ·cases h
 ·rename_i s' e
  obtain ⟨n, hn⟩ := Ul.1 h
  exact ⟨n + 1, by simp only [Ag4, e]; exact hn⟩
 rename_i t' e
 exact ⟨1, by simp only [Ag4, e]; exact h⟩
abbrev Ao (α : Type) : List α := []
abbrev slr {α : Type} (o : Bool) (m : Nat) (f : α → V) (xs : List α) : V := .sl o m (xs.map f)
class Fz {α : Type} (f : α → V) (g : outParam (α → V)) : Prop where
 eq : ∀ x, (f x).fz = g x
instance {k : IntKind} : Fz (V.int k) (V.int k) := ⟨fun _ => rfl⟩
instance : Fz Ae Ae := ⟨fun _ => rfl⟩
instance : Fz V.bool V.bool := ⟨fun _ => rfl⟩
instance : Fz V.str V.str := ⟨fun _ => rfl⟩
theorem Ab {α : Type} (f : α → V) {g : α → V} [Fz f g] (xs : List α) : fzL (xs.map f) = xs.map g := by
 induction xs with
 | nil => rfl
 | cons x r ih => simp [fzL, Fz.eq, ih]
instance {α : Type} (m : Nat) (f g : α → V) [Fz f g] : Fz (slr true m f) (slr false m g) := ⟨fun x => by simp [slr, V.fz, Ab]⟩
instance {α : Type} (m : Nat) (f : α → V) : Fz (slr false m f) (slr false m f) := ⟨fun x => by simp [slr, V.fz]⟩
theorem Ac {α : Type} (m : Nat) (f : α → V) {g : α → V} [Fz f g] (xs : List α) : V.fz (.sl true m (xs.map f)) = .sl false m (xs.map g) := by simp [V.fz, Ab]
theorem Ad {α : Type} (f : α → V) {g : α → V} [Fz f g] (x : α) : V.fz (f x) = g x := Fz.eq x
abbrev rA2 {α : Type} (f : α → V) (p : α × α) : V := .agg [f p.1, f p.2]
abbrev rA3 {α : Type} (f : α → V) (p : α × α × α) : V := .agg [f p.1, f p.2.1, f p.2.2]
abbrev rP {α : Type} (o : Bool) (f : α → V) (x : α) : V := .ptr o (f x)
abbrev rO {α : Type} (o : Bool) (f : α → V) : Option α → V
 | none => .nilp
 | some x => .ptr o (f x)
abbrev rMp {β : Type} (o : Bool) (f : β → Lf) (l : List (ByteArray × β)) : V := .mp o (l.map fun e => (e.1, f e.2))
instance {β : Type} (o : Bool) (f : β → Lf) : Fz (rMp o f) (rMp false f) := ⟨fun x => by simp [V.fz]⟩
theorem LkQ.one {β : Type} (f : β → Lf) (g : β → V) (l : List (ByteArray × β)) (z0 : β) {es : List (ByteArray × Lf)} {s : ByteArray} {z : Lf} {K : V → Prop} (e : es = l.map fun e => (e.1, f e.2)) (hz : z = f z0) (hg : ∀ b, (f b).v = g b)
  (h : K (g ((E5 l s).getD z0))) : LkQ es s z false K := by
 subst e; subst hz
 refine ⟨?_⟩
 unfold Aph
 rw [Ac3, Option.getD_map, hg]
 exact h
theorem LkQ.two {β : Type} (f : β → Lf) (g : β → V) (l : List (ByteArray × β)) (z0 : β) {es : List (ByteArray × Lf)} {s : ByteArray} {z : Lf} {K : V → Prop} (e : es = l.map fun e => (e.1, f e.2)) (hz : z = f z0) (hg : ∀ b, (f b).v = g b)
  (h : K (.tup [g ((E5 l s).getD z0), .bool (E5 l s).isSome])) : LkQ es s z true K := by
 subst e; subst hz
 refine ⟨?_⟩
 unfold Aph
 rw [Ac3, Option.getD_map, hg, Option.isSome_map]
 exact h
theorem MsQ.o {β : Type} (f : β → Lf) (l : List (ByteArray × β)) (b : β) {es : List (ByteArray × Lf)} {s : ByteArray} {x : Lf} {K : List (ByteArray × Lf) → Prop} (e : es = l.map fun e => (e.1, f e.2)) (hx : x = f b)
  (h : K ((K5 l s b).map fun e => (e.1, f e.2))) : MsQ es s x K := by
 subst e; subst hx
 exact ⟨by rw [Aj8]; exact h⟩
theorem BsQ.o (ns : List Int) {xs : List V} {K : ByteArray → Prop} (e : xs = ns.map (V.int .u8)) (h : K (Vp ns)) : BsQ xs K := by
 subst e
 exact ⟨ns, Ap0 ns, h⟩
instance {α : Type} (f g : α → V) [Fz f g] : Fz (rP true f) (rP false g) := ⟨fun x => by simp [V.fz, Fz.eq]⟩
instance {α : Type} (f g : α → V) [Fz f g] : Fz (rO true f) (rO false g) := ⟨fun x => by cases x <;> simp [rO, V.fz, Fz.eq]⟩
instance {α : Type} (f g : α → V) [Fz f g] : Fz (rA2 f) (rA2 g) := ⟨fun x => by simp [V.fz, fzL, Fz.eq]⟩
instance {α : Type} (f g : α → V) [Fz f g] : Fz (rA3 f) (rA3 g) := ⟨fun x => by simp [V.fz, fzL, Fz.eq]⟩
def One {α : Type} (f : α → V) : Prop := ∀ x, (f x).cells = [f x] ∧ (f x).isAgg = false
def Te {α : Type} (m : Nat) (f : α → V) : Prop := ∀ x, (f x).cells.length = m ∧ C4 (f x).cells = true
section
variable {α ρ : Type} {v : ρ} {x y : Option ρ} {X Y : Prop}
theorem Br.od {p : Prop} [Decidable p] (h : (if p then x else y) = some v) (h1 : p → x = some v → X) (h2 : ¬ p → y = some v → Y) : Br (decide p) X Y := by
 by_cases hp : p
 ·rw [if_pos hp] at h; exact ⟨fun _ => h1 hp h, fun e => absurd hp (of_decide_eq_false e)⟩
 rw [if_neg hp] at h; exact ⟨fun e => absurd (of_decide_eq_true e) hp, fun _ => h2 hp h⟩
theorem Br.oe {a b : Int} (h : (if a = b then x else y) = some v) (h1 : a = b → x = some v → X) (h2 : ¬ a = b → y = some v → Y) : Br (a == b) X Y := by
 have : (a == b) = decide (a = b) := by rw [Bool.eq_iff_iff]; simp
 rw [this]; exact Br.od h h1 h2
theorem Br.on {a b : Int} (h : (if a ≠ b then x else y) = some v) (h1 : a ≠ b → x = some v → X) (h2 : ¬ a ≠ b → y = some v → Y) : Br (a != b) X Y := by
 have : (a != b) = decide (a ≠ b) := by rw [Bool.eq_iff_iff]; simp
 rw [this]; exact Br.od h h1 h2
theorem Br.ob {b : Bool} (h : (if b = true then x else y) = some v) (h1 : b = true → x = some v → X) (h2 : ¬ b = true → y = some v → Y) : Br b X Y := by
 cases b
 ·exact ⟨fun e => Bool.noConfusion e, fun _ => h2 (by simp) (by simpa using h)⟩
 exact ⟨fun _ => h1 rfl (by simpa using h), fun e => Bool.noConfusion e⟩
theorem Br.flip {b : Bool} (h : Br b Y X) : Br (!b) X Y := by
 cases b
 ·exact ⟨fun _ => h.f rfl, fun e => Bool.noConfusion e⟩
 exact ⟨fun e => Bool.noConfusion e, fun _ => h.t rfl⟩
theorem Ask.o {p : Prop} (h : ask p x = some v) (hk : p → x = some v → X) : Ask p X := by
 obtain ⟨h1, h2⟩ := Abl.1 h
 exact ⟨h1, hk h1 h2⟩
theorem Idx.o {j : Int} {lo n : Nat} {K : Int → Prop} (h : (if j = lo then x else y) = some v) (h1 : x = some v → K lo) (h2 : y = some v → Idx j (lo + 1) n K) : Idx j lo n K := by
 refine ⟨fun a b => ?_⟩
 by_cases hj : j = lo
 ·rw [if_pos hj] at h; rw [hj]; exact h1 h
 rw [if_neg hj] at h; exact (h2 h).h (by omega) b
theorem Idx.lit {j : Int} {lo n : Nat} {K : Int → Prop} (h : K j) : Idx j lo n K := ⟨fun _ _ => h⟩
theorem Len.mrep {f : α → V} {w : α} {n : Nat} {K : Nat → Prop} (h : K n) : Len ((List.replicate n w).map f) K := ⟨by rw [List.length_map, List.length_replicate]; exact h⟩
theorem Len.nil {K : Nat → Prop} (h : K 0) : Len [] K := ⟨h⟩
theorem Len.cons {u : V} {us : List V} {K : Nat → Prop} (h : Len us fun n => K (n + 1)) : Len (u :: us) K := ⟨h.h⟩
variable {f : α → V}
theorem Avw [Inhabited α] (f : α → V) {xs : List α} {j : Nat} (hj : j < xs.length) : (xs.map f).getD j .dead = f (nth xs j) := by
 simp [List.getD_eq_getElem?_getD, nth, hj]
theorem Elem.o [Inhabited α] {xs : List α} {j : Nat} {K : V → Prop} (hj : j < xs.length) (hk : K (f (nth xs j))) : Elem (xs.map f) j K := ⟨by rw [Avw f hj]; exact hk⟩
theorem Xj (hf : One f) (xs : List α) : Bp (xs.map f) = xs.map f := by
 induction xs with
 | nil => rfl
 | cons x r ih => simp only [List.map_cons, Bp, (hf x).1, ih]; rfl
theorem Aug [Inhabited α] (f : α → V) {xs : List α} {c : Nat} (hc : c < xs.length) : (xs.map f).drop c = f (nth xs c) :: (xs.map f).drop (c + 1) := by
 rw [List.drop_eq_getElem_cons (by simpa using hc)]
 simp [nth, List.getD_eq_getElem?_getD, hc]
theorem Cells.one [Inhabited α] (hf : One f) {xs : List α} {c : Nat} {K : List V → Prop} (hc : c < xs.length) (hk : K [f (nth xs c)]) : Cells (Bp (xs.map f)) c 1 K := by
 refine ⟨_, ?_, ?_, hk⟩
 ·rw [Xj hf, List.length_map]; exact hc
 rw [Xj hf, Aug f hc]; rfl
theorem Aj6 [Inhabited α] {m : Nat} (hf : Te m f) : ∀ {xs : List α} {i : Nat}, i < xs.length → ∃ l r, Bp (xs.map f) = l ++ ((f (nth xs i)).cells ++ r) ∧ l.length = i * m := by
 intro xs
 induction xs with
 | nil => intro i h; simp at h
 | cons x t ih =>
   intro i h
   cases i with
   | zero => exact ⟨[], Bp (t.map f), rfl, by simp⟩
   | succ i =>
     obtain ⟨l, r, e, hl⟩ := ih (i := i) (by simpa using h)
     refine ⟨(f x).cells ++ l, r, by simp only [List.map_cons, Bp, e, List.append_assoc]; rfl, ?_⟩
     rw [List.length_append, (hf x).1, hl, Nat.succ_mul]; omega
theorem Cells.wide [Inhabited α] {m : Nat} (hf : Te m f) {xs : List α} {i off n : Nat} {K : List V → Prop} (hi : i < xs.length) (hn : off + n ≤ m) (hk : K (((f (nth xs i)).cells.drop off).take n)) :
  Cells (Bp (xs.map f)) (Bh i m + off) n K := by
 obtain ⟨l, r, e, hl⟩ := Aj6 hf hi
 have hw := (hf (nth xs i)).1
 refine ⟨_, ?_, ?_, hk⟩
 ·rw [e, Rr, List.length_append, List.length_append, hl, hw]; omega
 rw [e, Rr, ← hl, ← List.drop_drop, List.drop_left, List.drop_append_of_le_length (by omega), List.take_append_of_le_length (by simp; omega)]
theorem Cells.lit {xs us : List V} {c n : Nat} {K : List V → Prop} (h : Nat.ble (c + n) xs.length = true) (e : (xs.drop c).take n = us) (hk : K us) : Cells xs c n K := ⟨us, Nat.le_of_ble_eq_true h, e, hk⟩
theorem Kid.one [Inhabited α] (hf : One f) {m : Nat} {xs : List α} {c : Nat} {K : V → Prop} (hc : c < xs.length) (hk : K (f (nth xs c))) : Kid (.sl true m (xs.map f)) c K :=
 ⟨_, rfl, by simp only [V.kids, Xj hf]; simp [nth, List.getD_eq_getElem?_getD, hc], hk⟩
theorem Kid.wide [Inhabited α] {m : Nat} (hf : Te m f) {xs : List α} {i off : Nat} {u : V} {K : V → Prop} (hi : i < xs.length) (hu : (f (nth xs i)).cells[off]? = some u) (hk : K u) : Kid (.sl true m (xs.map f)) (Bh i m + off) K := by
 obtain ⟨l, r, e, hl⟩ := Aj6 hf hi
 refine ⟨u, rfl, ?_, hk⟩
 have ho : off < (f (nth xs i)).cells.length := (List.getElem?_eq_some_iff.1 hu).1
 simp only [V.kids, e]
 rw [Rr, List.getElem?_append_right (by omega), hl, Nat.add_sub_cancel_left, List.getElem?_append_left ho, hu]
theorem Kid.lit {T k : V} {c : Nat} {K : V → Prop} (h1 : T.stepOk = true) (h2 : T.kids[c]? = some k) (hk : K k) : Kid T c K := ⟨k, h1, h2, hk⟩
theorem Ary (hf : One f) : ∀ {xs : List α} {c : Nat} (w : α), c < xs.length → Nv (xs.map f) c [f w] = some ((xs.set c w).map f) := by
 intro xs
 induction xs with
 | nil => intro c w h; simp at h
 | cons x r ih =>
   intro c w h
   have hlen : (f x).cells.length = 1 := by rw [(hf x).1]; rfl
   simp only [List.map_cons, Nv, hlen]
   cases c with
   | zero =>
     have : (f x).setCells 0 [f w] = some (f w) := by
      have hx := (hf x).2
      have hv := (hf w).2
      unfold V.setCells
      split
      ·simp_all [V.isAgg]
      ·simp [Af2, hv]
     simp [this]
   | succ c =>
     have := ih (c := c) w (by simpa using h)
     simp [this]
theorem Apc (hf : One f) : ∀ {xs : List α} {c : Nat} (w : α), c < xs.length → Nv ((xs.map f).set c .dead) c [f w] = some ((xs.set c w).map f) := by
 intro xs
 induction xs with
 | nil => intro c w h; simp at h
 | cons x r ih =>
   intro c w h
   have hlen : (f x).cells.length = 1 := by rw [(hf x).1]; rfl
   cases c with
   | zero =>
     simp only [List.map_cons, List.set_cons_zero, Nv]
     simp [V.cells, V.setCells, Af2, (hf w).2]
   | succ c =>
     have := ih (c := c) w (by simpa using h)
     simp [Nv, hlen, this]
theorem SetKids.fill (hf : One f) {o : Bool} {m : Nat} {xs : List α} {c : Nat} {us : List V} {K : V → Prop} (w : α) (e : us = [f w]) (hc : c < xs.length) (hk : K (.sl o m ((xs.set c w).map f))) : SetKids (.sl o m (Axc f xs c)) c us K := by
 subst e
 exact ⟨_, by simp only [V.setKids, Axc, Apc hf w hc, Option.map_some], hk⟩
theorem SetKids.one (hf : One f) {o : Bool} {m : Nat} {xs : List α} {c : Nat} {us : List V} {K : V → Prop} (w : α) (e : us = [f w]) (hc : c < xs.length) (hk : K (.sl o m ((xs.set c w).map f))) : SetKids (.sl o m (xs.map f)) c us K := by
 subst e
 exact ⟨_, by simp only [V.setKids, Ary hf w hc, Option.map_some], hk⟩
theorem Apu [Inhabited α] {m : Nat} (hf : Te m f) : ∀ {xs : List α} {i off : Nat} {us : List V} (w : α), i < xs.length → (f (nth xs i)).setCells off us = some (f w) → off < m → Nv (xs.map f) (i * m + off) us = some ((xs.set i w).map f) := by
 intro xs
 induction xs with
 | nil => intro i off us w h; simp at h
 | cons x r ih =>
   intro i off us w h hs ho
   simp only [List.map_cons, Nv, (hf x).1]
   cases i with
   | zero =>
     have hs' : (f x).setCells off us = some (f w) := hs
     simp [ho, hs']
   | succ i =>
     have := ih (i := i) (off := off) (us := us) w (by simpa using h) hs ho
     rw [if_neg (by rw [Nat.succ_mul]; omega), show (i + 1) * m + off - m = i * m + off by rw [Nat.succ_mul]; omega, this]
     simp
theorem SetKids.wide [Inhabited α] {m : Nat} (hf : Te m f) {o : Bool} {xs : List α} {i off : Nat} {us : List V} {K : V → Prop} (w : α) (hi : i < xs.length) (hs : (f (nth xs i)).setCells off us = some (f w)) (ho : off < m) (hk : K (.sl o m ((xs.set i w).map f))) :
  SetKids (.sl o m (xs.map f)) (Bh i m + off) us K :=
 ⟨_, by simp only [V.setKids, Rr, Apu hf w hi hs ho, Option.map_some], hk⟩
theorem An3 [Inhabited α] {m : Nat} (hf : Te m f) : ∀ {xs : List α} {i off : Nat} {us : List V} {v : V}, i < xs.length → (f (nth xs i)).setCells off us = some v → off < m → Nv (xs.map f) (i * m + off) us = some (holeW f xs i v) := by
 intro xs
 induction xs with
 | nil => intro i off us v h; simp at h
 | cons x r ih =>
   intro i off us v h hs ho
   simp only [List.map_cons, Nv, (hf x).1, holeW]
   cases i with
   | zero =>
     have hs' : (f x).setCells off us = some v := hs
     simp [ho, hs']
   | succ i =>
     have := ih (i := i) (off := off) (us := us) (v := v) (by simpa using h) hs ho
     rw [if_neg (by rw [Nat.succ_mul]; omega), show (i + 1) * m + off - m = i * m + off by rw [Nat.succ_mul]; omega, this]
     simp [holeW]
theorem Am2 {m : Nat} (hf : Te m f) : ∀ {xs : List α} {i off : Nat} {us : List V} {v : V} (w : α), i < xs.length → v.cells.length = m → v.setCells off us = some (f w) → off < m → Nv (holeW f xs i v) (i * m + off) us = some ((xs.set i w).map f) := by
 intro xs
 induction xs with
 | nil => intro i off us v w h; simp at h
 | cons x r ih =>
   intro i off us v w h hv hs ho
   cases i with
   | zero => simp [holeW, Nv, hv, ho, hs]
   | succ i =>
     have := ih (i := i) (off := off) (us := us) (v := v) w (by simpa using h) hv hs ho
     simp only [holeW, List.map_cons, List.set_cons_succ, Nv, (hf x).1] at this ⊢
     rw [if_neg (by rw [Nat.succ_mul]; omega), show (i + 1) * m + off - m = i * m + off by rw [Nat.succ_mul]; omega, this]
     simp
theorem Len.holeW {xs : List α} {i : Nat} {v : V} {K : Nat → Prop} (h : K xs.length) : Len (holeW f xs i v) K := ⟨by simp only [Ax.holeW, List.length_set, List.length_map]; exact h⟩
theorem SetKids.mkholeW [Inhabited α] {m : Nat} (hf : Te m f) {o : Bool} {xs : List α} {i off : Nat} {us : List V} {K : V → Prop} (v : V) (hi : i < xs.length) (hs : (f (nth xs i)).setCells off us = some v) (ho : off < m) (hk : K (.sl o m (holeW f xs i v))) :
  SetKids (.sl o m (xs.map f)) (Bh i m + off) us K :=
 ⟨_, by simp only [V.setKids, Rr, An3 hf hi hs ho, Option.map_some], hk⟩
theorem SetKids.fillW {m : Nat} (hf : Te m f) {o : Bool} {xs : List α} {i off : Nat} {us : List V} {v : V} {K : V → Prop} (w : α) (hi : i < xs.length) (hv : v.cells.length = m) (hs : v.setCells off us = some (f w)) (ho : off < m) (hk : K (.sl o m ((xs.set i w).map f))) :
  SetKids (.sl o m (holeW f xs i v)) (Bh i m + off) us K :=
 ⟨_, by simp only [V.setKids, Rr, Am2 hf w hi hv hs ho, Option.map_some], hk⟩
theorem SetKids.lit {T T' : V} {c : Nat} {us : List V} {K : V → Prop} (h : T.setKids c us = some T') (hk : K T') : SetKids T c us K := ⟨T', h, hk⟩
theorem MkQ.o {d n : Nat} {z : V} {K : List V → Prop} (f : α → V) (w : α) (e : z = f w) (hk : K ((List.replicate n w).map f)) : MkQ d n z K := ⟨by rw [e, ← List.map_replicate]; exact hk⟩
theorem Ao8 {m : Nat} (hf : Te m f) (ws : List α) : N2 m (ws.map f) = true := by
 induction ws with
 | nil => rfl
 | cons w r ih => simp [N2, (hf w).1, (hf w).2, ih]
theorem BslQ.o {d m : Nat} {us : List V} {K : List V → Prop} (f : α → V) (ws : List α) (hf : Te m f) (e : us = ws.map f) (hk : K (ws.map f)) : BslQ d m us K := by
 subst e; exact ⟨Ao8 hf ws, hk⟩
theorem BslQ.lit {d m : Nat} {us : List V} {K : List V → Prop} (e : N2 m us = true) (hk : K us) : BslQ d m us K := ⟨e, hk⟩
theorem Al1 {m : Nat} (hf : Te m f) (ws : List α) : C4 (Bp (ws.map f)) = true := by
 induction ws with
 | nil => rfl
 | cons w r ih =>
   have := (hf w).2
   simp only [C4, List.map_cons, Bp, List.all_append, Bool.and_eq_true] at this ih ⊢
   exact ⟨this, ih⟩
theorem AppQ.o {m d : Nat} {us vs : List V} {K : List V → Prop} (f : α → V) (hf : Te m f) (xs ys : List α) (ex : us = xs.map f) (ey : vs = ys.map f) (h : ask (xs.length + ys.length ≤ LIM) x = some v) (hk : x = some v → K ((xs ++ ys).map f)) : AppQ d us vs K := by
 subst ex; subst ey
 obtain ⟨h1, h2⟩ := Abl.1 h
 exact ⟨Al1 hf ys, by simpa using h1, by rw [← List.map_append]; exact hk h2⟩
theorem Ae8 (hf : ∀ x, Bi (f x).cells = false) (ws : List α) : Bi (Bp (ws.map f)) = false := by
 induction ws with
 | nil => rfl
 | cons w r ih => simp only [List.map_cons, Bp, Gy, hf w, ih]; rfl
theorem SlcQ.o {l h : Int} {xs : List α} {K : List V → Prop} (f : α → V) (hh : ask (0 ≤ l ∧ l ≤ h ∧ h ≤ (xs.length : Int)) x = some v) (hk : x = some v → K (((xs.drop l.toNat).take (h.toNat - l.toNat)).map f)) : SlcQ (xs.map f) l h K := by
 obtain ⟨⟨h1, h2, h3⟩, h4⟩ := Abl.1 hh
 exact ⟨h1, h2, by simpa using h3, by rw [← List.map_drop, ← List.map_take]; exact hk h4⟩
theorem SlcQ.lst {l h : Int} {xs : List α} {us : List V} {K : List V → Prop} (f : α → V) (e : us = xs.map f) (hh : ask (0 ≤ l ∧ l ≤ h ∧ h ≤ (xs.length : Int)) x = some v) (hk : x = some v → K (((xs.drop l.toNat).take (h.toNat - l.toNat)).map f)) : SlcQ us l h K := by
 subst e; exact SlcQ.o f hh hk
theorem Elem.lst [Inhabited α] (f : α → V) (xs : List α) {us : List V} {j : Nat} {K : V → Prop} (e : us = xs.map f) (hj : j < xs.length) (h : K (f (nth xs j))) : Elem us j K := by
 subst e
 exact Elem.o hj h
theorem Cells.lst [Inhabited α] (f : α → V) (hf : One f) (xs : List α) {us : List V} {j : Nat} {K : List V → Prop} (e : us = xs.map f) (hj : j < xs.length) (h : K [f (nth xs j)]) : Cells us j 1 K := by
 rw [e, ← Xj hf]
 exact Cells.one hf hj h
theorem NoOwn.o (hf : ∀ x, Bi (f x).cells = false) {ws : List α} (h : X) : NoOwn (ws.map f) X Y := ⟨.inl ⟨Ae8 hf ws, h⟩⟩
theorem NoOwn.lit {us : List V} (e : Bi (Bp us) = false) (h : X) : NoOwn us X Y := ⟨.inl ⟨e, h⟩⟩
theorem NoOwn.own {us : List V} (e : Bi (Bp us) = true) (h : Y) : NoOwn us X Y := ⟨.inr ⟨e, h⟩⟩
end
def Sm (P : Program) (f : Nat) (vs : List V) (v : V) (k : Nat) (u : V) : Prop := Tri P f vs (fun r o => r = v ∧ o[k]? = some u)
theorem Oz {P : Program} {f N : Nat} {ac : ACode} {rs : List RS} {args : List V} {v u : V} {k : Nat} (hf : Bd P f N ac rs = true) (hn : args.length ≤ N)
  (h : vc P ac (Ar9 N rs args fun r o => r = v ∧ o[k]? = some u) (entry N 0 args)) : Sm P f args v k u := Alc hf hn h
theorem RdL.drop {w : World} {O : Nat → Prop} : ∀ (k : Nat) {os : List V} {us : List Value} {fp : List Nat}, RdL w O os us fp → ∃ fp', RdL w O (os.set k .dead) us fp' ∧ List.Sublist fp' fp
 | _, _, _, _, .nil => ⟨[], .nil, .slnil⟩
 | 0, _, _, _, .leaf _ t => ⟨_, .leaf (.dead _) t, .refl _⟩
 | 0, _, _, _, .grp _ _ t => ⟨_, .leaf (.dead _) t, List.sublist_append_right _ _⟩
 | 0, _, _, _, .fblk _ _ _ _ t => ⟨_, .leaf (.dead _) t, .refl _⟩
 | 0, _, _, _, .oblk _ _ _ _ _ t => ⟨_, .leaf (.dead _) t, (List.sublist_append_right _ _).cons _⟩
 | 0, _, _, _, .mpf _ _ _ t => ⟨_, .leaf (.dead _) t, .refl _⟩
 | 0, _, _, _, .mpo _ _ _ t => ⟨_, .leaf (.dead _) t, (List.Sublist.refl _).cons _⟩
 | k + 1, _, _, _, .leaf h t => let ⟨_, a, b⟩ := RdL.drop k t; ⟨_, .leaf h a, b⟩
 | k + 1, _, _, _, .grp h s t => let ⟨_, a, b⟩ := RdL.drop k t; ⟨_, .grp h s a, (List.Sublist.refl _).append b⟩
 | k + 1, _, _, _, .fblk h hc hO s t => let ⟨_, a, b⟩ := RdL.drop k t; ⟨_, .fblk h hc hO s a, b⟩
 | k + 1, _, _, _, .oblk h hb hO hk s t => let ⟨_, a, b⟩ := RdL.drop k t; ⟨_, .oblk h hb hO hk s a, ((List.Sublist.refl _).append b).cons_cons _⟩
 | k + 1, _, _, _, .mpf hb he hO t => let ⟨_, a, b⟩ := RdL.drop k t; ⟨_, .mpf hb he hO a, b⟩
 | k + 1, _, _, _, .mpo hb he hO t => let ⟨_, a, b⟩ := RdL.drop k t; ⟨_, .mpo hb he hO a, b.cons_cons _⟩
theorem Tri.drop {P : Program} {f : Nat} {args : List V} {k : Nat} {R : V → List V → Prop} (h : Tri P f args fun r o => R r (o.set k .dead)) : Tri P f args R := by
 intro w O vals fp h1 h2
 obtain ⟨h3, h4⟩ := h w O vals fp h1 h2
 refine ⟨h3, h4.mono ?_⟩
 rintro e w' ⟨res, outs, rv, O', fpr, fpo, hR, he, r1, ro, hnd, hm⟩
 obtain ⟨fp', a, b⟩ := RdL.drop k ro
 have hs : List.Sublist (fpr ++ fp') (fpr ++ fpo) := (List.Sublist.refl _).append b
 exact ⟨res, _, rv, O', fpr, fp', hR, he, r1, a, hs.nodup hnd, ⟨hm.os, hm.tape, hm.output, hm.size, hm.same, fun b hb => hm.new b (hs.subset hb)⟩⟩
theorem RdL.deads {w : World} {O : Nat → Prop} : ∀ (us : List Value), RdL w O (List.replicate us.length .dead) us []
 | [] => .nil
 | _ :: us => .leaf (.dead _) (RdL.deads us)
theorem Aoj {P : Program} {f N : Nat} {ac : ACode} {rs : List RS} {args cs : List V} {v : V} {k n : Nat} (hc : args[k]? = some (.agg cs)) (hl : cs.length = n) (hf : Bd P f N ac rs = true) (hn : args.length ≤ N)
  (h : vc P ac (Ar9 N rs args fun r _ => r = v) (entry N 0 args)) : Sm P f args v k (.agg (List.replicate n .dead)) := by
 subst hl
 have h0 := Alc hf hn h
 intro w O vals fp h1 h2
 obtain ⟨h3, h4⟩ := h0 w O vals fp h1 h2
 refine ⟨h3, h4.mono ?_⟩
 rintro e w' ⟨res, outs, rv, O', fpr, fpo, hR, he, r1, ro, hnd, hm⟩
 obtain ⟨_, _, vl, x, vr, _, fu, _, _, ev, _, _, hvl, _, gx, _⟩ := h1.at hc
 have ga : ∃ bs : Array Value, x = .agg bs ∧ bs.size = cs.length := by
  cases gx with
  | leaf h _ => cases h
  | grp h s _ => cases h; exact ⟨_, rfl, by simpa using s.length⟩
  | fblk h _ _ _ _ => cases h
  | oblk h _ _ _ _ _ => cases h
 obtain ⟨bs, rfl, hb⟩ := ga
 have hlen : outs.length = vals.length := ro.length.symm
 have hk : k < outs.length := by rw [hlen, ev]; simp; omega
 obtain ⟨y0, y1, f0, f3, e0, e3, g0, g3⟩ := RdL.split (outs.take k) (ys := outs.drop k) (by rw [List.take_append_drop]; exact ro)
 rw [List.drop_eq_getElem_cons hk] at g3
 obtain ⟨u, us, f1, f2, e1, e2, g1, g2⟩ := g3.cons_split
 have hy0 : y0.length = k := by rw [g0.length, List.length_take]; omega
 subst e1; subst e2
 rw [ev] at e0
 obtain ⟨_, e4⟩ := List.append_inj e0 (by rw [hvl, hy0])
 cases e4
 have hd : RdL w' O' (outs.take k ++ (.agg (List.replicate cs.length .dead) :: outs.drop (k + 1))) vals (f0 ++ ([] ++ f2)) := by
  rw [ev, e0]
  have hbl : cs.length = bs.toList.length := by simp; omega
  rw [hbl]
  exact g0.append (.grp (.agg _ bs.toList) (RdL.deads bs.toList) g2)
 have hs : List.Sublist (fpr ++ (f0 ++ f2)) (fpr ++ fpo) := by
  rw [e3]
  exact (List.Sublist.refl _).append ((List.Sublist.refl _).append (List.sublist_append_right _ _))
 have hko : (outs.take k ++ (.agg (List.replicate cs.length .dead) :: outs.drop (k + 1)))[k]? = some (.agg (List.replicate cs.length .dead)) := by
  rw [List.getElem?_append_right (by rw [List.length_take]; omega), List.length_take, Nat.min_eq_left (by omega), Nat.sub_self]; rfl
 exact ⟨res, _, rv, O', fpr, f0 ++ f2, ⟨hR, hko⟩, he, r1, by simpa using hd, hs.nodup hnd, ⟨hm.os, hm.tape, hm.output, hm.size, hm.same, fun b hb => hm.new b (hs.subset hb)⟩⟩
theorem Tri.freeze {P : Program} {f : Nat} {args : List V} {R : V → List V → Prop} (h : Tri P f args fun r o => R r.fz o) : Tri P f args R := by
 intro w O vals fp h1 h2
 obtain ⟨h3, h4⟩ := h w O vals fp h1 h2
 refine ⟨h3, h4.mono ?_⟩
 rintro e w' ⟨res, outs, rv, O', fpr, fpo, hR, he, r1, ro, hnd, hm⟩
 have hd := List.nodup_append.1 hnd
 have hnew : ∀ b, b ∈ fpr → b ∈ fp ∨ w.heap.size ≤ b := fun b hb => hm.new b (by simp [hb])
 refine ⟨res.fz, outs, rv, fun b => O' b ∧ b ∉ fpr, [], fpo, hR, he, ?_, ?_, by simpa using hd.2.1, ⟨hm.os, hm.tape, hm.output, hm.size, fun b hb hS => ?_, fun b hb => hm.new b (by simpa using Or.inr (by simpa using hb))⟩⟩
 ·have := r1.fz (O2 := fun b => O' b ∧ b ∉ fpr) (fun b hb hh => hh.2 hb) (fun b hb _ hh => hb hh.1)
  simpa [fzL] using this
 ·exact ro.frame (fun b hb => ⟨rfl, (ro.fpO b hb).1, fun hh => hd.2.2 b hh b hb rfl⟩) (fun b hb _ => ⟨rfl, fun hh => hb hh.1⟩)
 have := hm.same b hb hS
 refine ⟨this.1, ⟨fun hh => this.2.1 hh.1, fun hh => ⟨this.2.2 hh, fun hf => ?_⟩⟩⟩
 rcases hnew b hf with h5 | h5
 ·exact hS h5
 omega
theorem Abj {P : Program} {f N : Nat} {ac : ACode} {rs : List RS} {args : List V} {v : V} (hf : Bd P f N ac rs = true) (hn : args.length ≤ N)
  (h : vc P ac (Ar9 N rs args fun r _ => r.fz = v) (entry N 0 args)) : Ret P f args v := Tri.freeze (R := fun r _ => r = v) (Alc hf hn h)
theorem Ret.frz {P : Program} {f : Nat} {vs : List V} {v v' : V} (h : Ret P f vs v) (e : v.fz = v') : Ret P f vs v' :=
 Tri.freeze (R := fun r _ => r = v') (Tri.mono h fun r _ hr => by rw [show r = v from hr]; exact e)
theorem Sm.frz {P : Program} {f k : Nat} {vs : List V} {v v' u : V} (h : Sm P f vs v k u) (e : v.fz = v') : Sm P f vs v' k u :=
 Tri.freeze (R := fun r o => r = v' ∧ o[k]? = some u) (Tri.mono h fun r _ hr => ⟨by rw [show r = v from hr.1]; exact e, hr.2⟩)
class NoFz {α : Type} (f : α → V) : Prop where
 eq : ∀ x, (f x).noFz = true
instance {k : IntKind} : NoFz (V.int k) := ⟨fun _ => rfl⟩
instance : NoFz Ae := ⟨fun _ => rfl⟩
instance : NoFz V.bool := ⟨fun _ => rfl⟩
instance : NoFz V.str := ⟨fun _ => rfl⟩
theorem Be {α : Type} {f : α → V} [NoFz f] (xs : List α) : Bq (xs.map f) = true := by
 induction xs with
 | nil => rfl
 | cons x r ih => simp [Bq, NoFz.eq, ih]
instance {α : Type} (m : Nat) (f : α → V) [NoFz f] : NoFz (slr true m f) := ⟨fun x => by simp [V.noFz, Be]⟩
instance {β : Type} (f : β → Lf) : NoFz (rMp true f) := ⟨fun x => by simp [V.noFz]⟩
instance {α : Type} (f : α → V) [NoFz f] : NoFz (rP true f) := ⟨fun x => by simp [V.noFz, NoFz.eq]⟩
instance {α : Type} (f : α → V) [NoFz f] : NoFz (rO true f) := ⟨fun x => by cases x <;> simp [V.noFz, NoFz.eq]⟩
instance {α : Type} (f : α → V) [NoFz f] : NoFz (rA2 f) := ⟨fun x => by simp [V.noFz, Bq, NoFz.eq]⟩
instance {α : Type} (f : α → V) [NoFz f] : NoFz (rA3 f) := ⟨fun x => by simp [V.noFz, Bq, NoFz.eq]⟩
section
variable {P : Program} {K : St → Prop} {σ : St} {β ρ : Type} {v : ρ} {oo : Option β} {k : β → Option ρ}
theorem CallQ.o (rep : β → V) {vs vs' : List V} {f d : Nat} (e : vs = vs') (h : oo.bind k = some v) (hr : ∀ r, oo = some r → Ret P f vs' (rep r)) (hk : ∀ r, k r = some v → B8 (Az d (.val (rep r)) σ) K) : CallQ P f d vs [] [] K σ := by
 subst e
 obtain ⟨r, h1, h2⟩ := Option.bind_eq_some_iff.1 h
 have h3 := hk r h2
 rw [A6] at h3
 refine ⟨rfl, Tri.mono (hr r h1) ?_⟩
 rintro r o rfl
 exact ⟨rfl, h3⟩
theorem CallQ.rd (rep : β → V) {vs vs' : List V} {rs : List Nat} {f d : Nat} (e : vs = vs') (hn : ∀ r, (rep r).noFz = true) (h : oo.bind k = some v) (hr : ∀ r, oo = some r → Ret P f vs' (rep r)) (hk : ∀ r, k r = some v → B8 (Az d (.val (rep r)) σ) K) : CallQ P f d vs [] rs K σ := by
 subst e
 obtain ⟨r, h1, h2⟩ := Option.bind_eq_some_iff.1 h
 have h3 := hk r h2
 rw [A6] at h3
 refine ⟨rfl, Tri.mono (hr r h1) ?_⟩
 rintro r' o rfl
 exact ⟨by simp [Ea, hn r], h3⟩
theorem CloQ.o (rep : β → V) {vs vs' cs : List V} {rs : List Nat} {f d : Nat} (e : vs ++ fzL cs = vs') (hn : ∀ r, Ea rs (rep r) = true) (h : oo.bind k = some v) (hr : ∀ r, oo = some r → Ret P f vs' (rep r)) (hk : ∀ r, k r = some v → B8 (Az d (.val (rep r)) σ) K) : CloQ P f d cs vs rs K σ := by
 subst e
 obtain ⟨r, h1, h2⟩ := Option.bind_eq_some_iff.1 h
 have h3 := hk r h2
 rw [A6] at h3
 refine ⟨Tri.mono (hr r h1) ?_⟩
 rintro r' o rfl
 exact ⟨hn r, h3⟩
theorem CallP.o (rep : β → V) {vs vs' : List V} {f d : Nat} {K : V → Prop} (e : vs = vs') (h : oo.bind k = some v) (hr : ∀ r, oo = some r → Ret P f vs' (rep r)) (hk : ∀ r, k r = some v → K (rep r)) : CallP P f d vs [] K := by
 subst e
 obtain ⟨r, h1, h2⟩ := Option.bind_eq_some_iff.1 h
 exact ⟨_, Tri.mono (hr r h1) (by rintro r' _ rfl; exact ⟨rfl, rfl⟩), hk r h2⟩
theorem CallP.rd (rep : β → V) {vs vs' : List V} {rs : List Nat} {f d : Nat} {K : V → Prop} (e : vs = vs') (hn : ∀ r, (rep r).noFz = true) (h : oo.bind k = some v) (hr : ∀ r, oo = some r → Ret P f vs' (rep r)) (hk : ∀ r, k r = some v → K (rep r)) : CallP P f d vs rs K := by
 subst e
 obtain ⟨r, h1, h2⟩ := Option.bind_eq_some_iff.1 h
 exact ⟨_, Tri.mono (hr r h1) (by rintro r' _ rfl; exact ⟨rfl, by simp [Ea, hn r]⟩), hk r h2⟩
theorem FrzQ.z {T : V} {K : V → Prop} (h : K T.fz) : FrzQ T 0 K := ⟨_, Au T, h⟩
theorem FrzQ.d {T : V} {n : Nat} {K : V → Prop} (T' : V) (e : T.fzAt n = T') (h : K T') : FrzQ T n K := ⟨_, e, h⟩
theorem LendP.io {γ : Type} {o : Option (β × γ)} {k : β × γ → Option ρ} (rep : β → V) (rep2 : γ → V) {vs vs' : List V} {rs : List Nat} {f d j : Nat} {T : V} {K : V → V → Prop} (e : vs = vs')
  (hn : ∀ b, Ea rs (rep b) = true) (hn2 : ∀ b, Ea rs (rep2 b) = true ∧ (rep2 b).node = true) (hu : ∀ u, upd [] T u = some u) (h : o.bind k = some v) (hr : ∀ x, o = some x → Sm P f vs' (rep x.1) j (rep2 x.2))
  (hk : ∀ b c, k (b, c) = some v → K (rep b) (rep2 c)) : LendP P f d vs rs j [] T K := by
 subst e
 obtain ⟨⟨b, c⟩, h1, h2⟩ := Option.bind_eq_some_iff.1 h
 exact ⟨_, _, _, hr _ h1, ⟨hn b, (hn2 c).1, (hn2 c).2, hu _⟩, hk b c h2⟩
theorem CallQ.io {γ : Type} {o : Option (β × γ)} {k : β × γ → Option ρ} (rep : β → V) (rep2 : γ → V) {vs vs' : List V} {rs : List Nat} {f d j r : Nat} {p : List Nat} {T : V} (e : vs = vs') (hroots : rs.contains r = false)
  (hn : ∀ b, Ea rs (rep b) = true) (hn2 : ∀ b, Ea rs (rep2 b) = true ∧ (rep2 b).node = true) (hT : look σ r = .val T) (h : o.bind k = some v) (hr : ∀ x, o = some x → Sm P f vs' (rep x.1) j (rep2 x.2))
  (hk : ∀ b c, k (b, c) = some v → L1 p T (rep2 c) fun T' => B8 (Az d (.val (rep b)) (Hr r T' (p.length + 1) σ)) K) : CallQ P f d vs [(j, r, p)] rs K σ := by
 subst e
 obtain ⟨⟨b, c⟩, h1, h2⟩ := Option.bind_eq_some_iff.1 h
 obtain ⟨T', h3, h4⟩ := Fi (hk b c h2)
 rw [A6] at h4
 refine ⟨by simp only [Js, hroots]; rfl, Tri.mono (hr _ h1) ?_⟩
 rintro res outs ⟨rfl, ho⟩
 refine ⟨hn b, ?_⟩
 rw [ho, hT]
 exact ⟨(hn2 c).1, by rw [h3]; show K (Az d _ (Hr r T' (p.length + Kr (rep2 c)) σ)); rw [Yb (hn2 c).2]; exact h4⟩
theorem CallQ.give (rep : β → V) {vs vs' : List V} {rs : List Nat} {f d j r : Nat} {p : List Nat} {T : V} (e : vs = vs') (hroots : rs.contains r = false)
  (hn : ∀ b, Ea rs (rep b) = true) (hT : look σ r = .val T) (h : oo.bind k = some v) (hr : ∀ x, oo = some x → Sm P f vs' (rep x) j .dead)
  (hk : ∀ b, k b = some v → L1 p T .dead fun T' => B8 (Az d (.val (rep b)) (Hr r T' p.length σ)) K) : CallQ P f d vs [(j, r, p)] rs K σ := by
 subst e
 obtain ⟨b, h1, h2⟩ := Option.bind_eq_some_iff.1 h
 obtain ⟨T', h3, h4⟩ := Fi (hk b h2)
 rw [A6] at h4
 refine ⟨by simp only [Js, hroots]; rfl, Tri.mono (hr _ h1) ?_⟩
 rintro res outs ⟨rfl, ho⟩
 refine ⟨hn b, ?_⟩
 rw [ho, hT]
 exact ⟨by cases rs <;> rfl, by rw [h3]; exact h4⟩
theorem LendQ.io {γ : Type} {o : Option (β × γ)} {k : β × γ → Option ρ} (rep : β → V) (rep2 : γ → V) (cs : γ → List V) (fld : γ → V) {bs : List A} {vs vs' : List V} {rs : List Nat} {f d j r : Nat} {p : List Nat} {T : V}
  (e : Ag8 0 bs.length vs = vs') (hc : ∀ c, rep2 c = .agg (cs c)) (hf : ∀ c, (cs c)[j]? = some (fld c)) (hroots : rs.contains r = false)
  (hn : ∀ b, Ea rs (rep b) = true) (hn2 : ∀ b, Ea rs (fld b) = true ∧ (fld b).node = true) (hT : look σ r = .val T) (h : o.bind k = some v) (hr : ∀ x, o = some x → Sm P f vs' (rep x.1) 0 (rep2 x.2))
  (hk : ∀ b c, k (b, c) = some v → L1 p T (fld c) fun T' => B8 (Az d (.val (rep b)) (Hr r T' (p.length + 1) σ)) K) : LendQ P f d 0 bs vs [(j, r, p)] rs K σ := by
 subst e
 obtain ⟨⟨b, c⟩, h1, h2⟩ := Option.bind_eq_some_iff.1 h
 obtain ⟨T', h3, h4⟩ := Fi (hk b c h2)
 rw [A6] at h4
 refine ⟨by simp only [Js, hroots]; rfl, Tri.mono (hr _ h1) ?_⟩
 rintro res outs ⟨rfl, ho⟩
 cases outs with
 | nil => cases ho
 | cons x o =>
   simp only [List.getElem?_cons_zero, Option.some.injEq] at ho
   subst ho
   have hj : (cs c ++ o)[j]? = some (fld c) := by
    have hlt := (List.getElem?_eq_some_iff.1 (hf c)).1
    rw [List.getElem?_append_left hlt]; exact hf c
   show Qk 0 _ _ (rep2 c :: o)
   rw [hc c]
   refine ⟨hn b, ?_⟩
   simp only [List.take_zero, List.nil_append]
   rw [hj, hT]
   exact ⟨(hn2 c).1, by rw [h3]; show K (Az d _ (Hr r T' (p.length + Kr (fld c)) σ)); rw [Yb (hn2 c).2]; exact h4⟩
theorem LendQ.give2 (n : Nat) (rep : β → V) {bs : List A} {vs vs' ds : List V} {rs : List Nat} {f d j1 j2 r : Nat} {p1 p2 : List Nat} {T : V}
  (e : Ag8 n bs.length vs = vs') (hroots : Js σ [(n + j1, r, p1), (n + j2, r, p2)] rs = true) (hd1 : ds[j1]? = some .dead) (hd2 : ds[j2]? = some .dead)
  (hn : ∀ b, Ea rs (rep b) = true) (hT : look σ r = .val T) (h : oo.bind k = some v) (hr : ∀ x, oo = some x → Sm P f vs' (rep x) n (.agg ds))
  (hk : ∀ b, k b = some v → L1 p1 T .dead fun T1 => L1 p2 T1 .dead fun T2 => L1 p1 T2 .dead fun T' => B8 (Az d (.val (rep b)) (Hr r T' (min p1.length p2.length) σ)) K) :
  LendQ P f d n bs vs [(n + j1, r, p1), (n + j2, r, p2)] rs K σ := by
 subst e
 obtain ⟨b, h1, h2⟩ := Option.bind_eq_some_iff.1 h
 obtain ⟨T1, h3, h4⟩ := Fi (hk b h2)
 obtain ⟨T2, h5, h6⟩ := Fi h4
 obtain ⟨T', h7, h8⟩ := Fi h6
 rw [A6] at h8
 refine ⟨hroots, Tri.mono (hr _ h1) ?_⟩
 rintro res outs ⟨rfl, ho⟩
 have hlt := (List.getElem?_eq_some_iff.1 ho).1
 have hdrop : outs.drop n = .agg ds :: outs.drop (n + 1) := by
  rw [List.drop_eq_getElem_cons hlt, (List.getElem?_eq_some_iff.1 ho).2]
 have htl : (outs.take n).length = n := by rw [List.length_take]; omega
 have g (j : Nat) (hj : ds[j]? = some .dead) : (outs.take n ++ (ds ++ outs.drop (n + 1)))[n + j]? = some .dead := by
  rw [List.getElem?_append_right (by omega), htl, show n + j - n = j by omega, List.getElem?_append_left (List.getElem?_eq_some_iff.1 hj).1]; exact hj
 unfold Qk
 rw [hdrop]
 show Fo d [(n + j1, r, p1), (n + j2, r, p2)] rs K σ (rep b) (outs.take n ++ (ds ++ outs.drop (n + 1)))
 refine ⟨hn b, ?_⟩
 rw [g j1 hd1, g j2 hd2]
 refine ⟨by cases rs <;> rfl, ?_⟩
 have hb : Nat.beq r r = true := Nat.beq_refl r
 simp only [Amq, hb, hT, Axy, h3, h5, h7]
 exact h8
end
abbrev Tgt := Ex × List Nat × St
def atQ (t : Tgt) : Ex → St → Prop := fun ex σ => ex = t.1 ∧ restrict t.2.1 σ = t.2.2
def Dy {σ' τ : Type} (ks : List Nat) (st : σ' → St) (tg : τ → Tgt) : σ' ⊕ τ → Ex → St → Prop
 | .inl s => atQ (.normal, ks, st s)
 | .inr t => atQ (tg t)
def Ex.isNormal : Ex → Bool
 | .normal => true
 | .exit _ => false
 | .ret => false
theorem LoopQ.o {σ' τ ρ : Type} {body : σ' → Option (σ' ⊕ τ)} {k : τ → Option ρ} {v : ρ} {s0 : σ'} {P : Program} {c : ACode} {Q : Ex → St → Prop} {σ : St} (ks : List Nat) (st : σ' → St) (tg : τ → Tgt)
  (h : (Ar body s0).bind k = some v) (hb : ∀ s o, body s = some o → vc P c (Dy ks st tg o) (st s)) (h0 : restrict ks σ = st s0) (hn : ∀ t, (tg t).1.isNormal = false) (ha : ∀ t, k t = some v → Q (tg t).1 (tg t).2.2) :
  LoopQ P c Q σ := by
 obtain ⟨t, h1, h2⟩ := Option.bind_eq_some_iff.1 h
 obtain ⟨n, hit⟩ := Ul.1 h1
 refine ⟨ks, n, ?_⟩
 rw [h0]
 clear h0 h h1
 induction n generalizing s0 with
 | zero => cases hit
 | succ n ih =>
   simp only [Ag4] at hit
   split at hit
   ·cases hit
   ·rename_i s' e
    refine Qa ?_ (Wl (hb _ _ e))
    rintro ex τ' ⟨h3, h4⟩
    subst h3
    show Y3 (awp P c) ks (less Q) n (restrict ks τ')
    rw [h4]
    exact ih hit
   ·rename_i t' e
    cases hit
    refine Qa ?_ (Wl (hb _ _ e))
    rintro ex τ' ⟨h3, h4⟩
    have hne := hn t
    rw [← h3] at hne
    have hq := ha t h2
    rw [← h4, ← h3] at hq
    cases ex with
    | normal => cases hne
    | exit i => exact .inr ⟨_, hq⟩
    | ret => exact .inr ⟨_, hq⟩
theorem CutQ.o {τ ρ : Type} {e : Option τ} {k : τ → Option ρ} {v : ρ} {P : Program} {c : ACode} {Q : Ex → St → Prop} {σ : St} (tg : τ → Tgt)
  (h : e.bind k = some v) (hb : ∀ t, e = some t → vc P c (atQ (tg t)) σ) (ha : ∀ t, k t = some v → Q (tg t).1 (tg t).2.2) : CutQ P c Q σ := by
 obtain ⟨t, h1, h2⟩ := Option.bind_eq_some_iff.1 h
 refine ⟨?_⟩
 show awp P c (less Q) σ
 refine Qa ?_ (Wl (hb t h1))
 rintro ex τ' ⟨h3, h4⟩
 have hq := ha t h2
 rw [← h4, ← h3] at hq
 exact .inr ⟨_, hq⟩
end Go.Proofs.Ytoaojijoefljaaa.Ax
