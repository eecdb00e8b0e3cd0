/-
  Regions whose order is open: whatever the order, the same state.
-/
import Derived.Test.YthcnmahjhahafaaAxR
namespace Go.Proofs.Ythcnmahjhahafaa.Ax
open Go

def isTop : A → Bool
  | .top => true
  | _ => false

def hideS (hide : List Nat) : St → St
  | [] => []
  | (d, a) :: r => if hide.contains d then hideS hide r else (d, a) :: hideS hide r

def hasKey (d : Nat) : St → Bool
  | [] => false
  | (k, _) :: r => k == d || hasKey d r

def fresh (d : Nat) (acc σ0 : St) : Bool := !hasKey d acc && isTop (look σ0 d)

def preOp (P : Program) (o : AOp) (σh : St) (cont : Nat → A → Prop) : Prop := match o with
  | .call d f as => as.all (fun e => !e.2) = true ∧ (match argsL σh (evalAs σh as) 0 with
    | some (vs, [], rs) => ∃ v, Tri P f vs (fun res _ => res = v ∧ resOk rs v = true) ∧ cont d (.val v)
    | _ => False)
  | o => match qR o σh with
    | some (d, a) => cont d a
    | none => False

def awpPre (P : Program) (σ0 : St) : List (G × List Nat) → St → (St → Prop) → Prop
  | [], acc, K => K (acc ++ σ0)
  | (x, hide) :: r, acc, K => match x.g with
    | none => preOp P x.o (hideS hide acc ++ σ0) fun d a => fresh d acc σ0 = true ∧ awpPre P σ0 r (acc ++ [(d, a.mapR (killG d 0))]) K
    | some (s, want) => match look (hideS hide acc ++ σ0) s with
      | .val (.bool b) => (b = want → preOp P x.o (hideS hide acc ++ σ0) fun d a => fresh d acc σ0 = true ∧ awpPre P σ0 r (acc ++ [(d, a.mapR (killG d 0))]) K) ∧
        (b = (!want) → match x.o.dst with
          | some d => fresh d acc σ0 = true ∧ awpPre P σ0 r (acc ++ [(d, .val (.tup []))]) K
          | none => False)
      | .val (.tup []) => match x.o.dst with
          | some d => fresh d acc σ0 = true ∧ awpPre P σ0 r (acc ++ [(d, .val (.tup []))]) K
          | none => False
      | _ => False

/-- what comes before an operation, by the edges -/
def befT : List Oper → List (List Nat) → List (List Nat)
  | [], acc => acc
  | o :: r, acc => befT r (acc ++ [((o.after.toList.filter (Region.binds .any ·)).flatMap fun e => e.on :: acc.getD e.on []).eraseDups])

def befs (ops : Array Oper) : List (List Nat) := befT ops.toList []

def headsListed (n m : Nat) : Array Bool := (List.range m).foldl (fun l i => l.setIfInBounds i true) (Array.replicate n false)

def hidesOk (ops : Array Oper) (T : List (List Nat)) : Nat → List (G × List Nat) → Bool
  | _, [] => true
  | i, (_, hide) :: r => (List.range i).all (fun j => (T.getD i []).contains j || (match (ops[j]?).bind (·.dst) with | some d => hide.contains d | none => false)) && hidesOk ops T (i + 1) r

def fitsD (P : Program) (N : Nat) (ops : Array Oper) (pre : List (G × List Nat)) (post : List G) : Bool :=
  fitsGs P N ops (pre.map (·.1) ++ post) ops.toList && P.follows .mixedOrders && hidesOk ops (befs ops) 0 pre &&
  ops.toList.zipIdx.all (fun (o, i) => o.after.toList.all fun e => !Region.binds .any e || decide (e.on < i)) &&
  (decide (pre.length = ops.size) || (decide (pre.length < ops.size) && Region.sinkB .any ops pre.length && Region.chainB .any ops pre.length)) &&
  Region.seqB .any ops (ops.size - pre.length) pre.length (headsListed ops.size pre.length)

/-- an operation does what was foretold, from any state that knows enough -/
def HeadOk (P : Program) (ops : Array Oper) (gv : Nat → Value) (N : Nat) (Q : Exit → Act → World → Prop) (i : Nat) (σh : St) (d : Nat) (r : A) : Prop :=
  ∀ τ a w O vals fp (next : Act → World → Prop), Le σh τ → Ok τ a w O gv N vals fp →
    (∀ a' w' O' vals' fp', Ok (puts d r τ) a' w' O' gv N vals' fp' → Mv w O (Sof fp) w' O' (Sof fp') → next a' w') → wpOp P ops Q i next a w

theorem Ok.congr {σ τ a w O gv N vals fp} (h : Ok σ a w O gv N vals fp) (e : look σ = look τ) : Ok τ a w O gv N vals fp := ⟨by rw [← e]; exact h.sim, h.lo, h.hi, h.sz, h.df⟩

theorem next_of {σ τ : St} {w O gv N} {fp : Nat → List Nat} {next : Act → World → Prop} (e : σ = τ)
    (h : ∀ a' w' O' vals' fp', Ok τ a' w' O' gv N vals' fp' → Mv w O (Sof fp) w' O' (Sof fp') → next a' w') : Next1 w O gv N fp (fun s => s = σ) next := by
  intro σ' a' w' O' vals' fp' hk ho hm
  subst hk; subst e
  exact h a' w' O' vals' fp' ho hm

theorem preOp_ok {P : Program} {ops : Array Oper} {gv N Q} {i : Nat} {o : Oper} {x : G} {σh : St} {cont : Nat → A → Prop} (hi : ops[i]? = some o) (hf : fitsO P N o x.o = true)
    (h : preOp P x.o σh cont) (hw : ∀ τ a w O vals fp, Le σh τ → Ok τ a w O gv N vals fp → Region.wanted o (yielded ops a.tmps) = true) :
    ∃ d r, cont d r ∧ HeadOk P ops gv N Q i σh d r ∧ o.dst = some d := by
  by_cases hc : ∃ d f as, x.o = .call d f as
  · obtain ⟨d, f, as, e⟩ := hc
    rw [e] at h hf
    simp only [preOp] at h
    obtain ⟨hio, h⟩ := h
    split at h
    case h_2 => exact h.elim
    rename_i vs rs hargs
    obtain ⟨v, htri, hcont⟩ := h
    have hd : o.dst = some d := by
      simp only [fitsO, Bool.and_eq_true, beq_iff_eq] at hf; exact hf.1.1
    refine ⟨d, .val v, hcont, ?_, hd⟩
    intro τ a w O vals fp next hle ho hn
    unfold wpOp
    rw [hi]
    simp only [hw τ a w O vals fp hle ho, if_true]
    left
    refine op_sound (K := fun s => s = puts d (.val v) τ) hf ho ?_ (next_of rfl hn)
    simp only [awpOp, awpCall]
    rw [givenOf_plain hio]
    simp only
    rw [argsL_mono hle (by simpa using hio) hargs]
    refine ⟨rfl, htri.mono ?_⟩
    rintro r o' ⟨rfl, hok⟩
    exact ⟨hok, rfl⟩
  · generalize x.o = y at *
    have hno : ∀ d f as, y ≠ .call d f as := fun d f as e => hc ⟨d, f, as, e⟩
    have hq : ∃ d r, qR y σh = some (d, r) ∧ cont d r := by
      have h' : match qR y σh with | some (d, a) => cont d a | none => False := by
        cases y <;> first | exact h | exact absurd rfl (hno _ _ _)
      split at h'
      · rename_i d r hqr; exact ⟨d, r, hqr, h'⟩
      · exact h'.elim
    obtain ⟨d, r, hqr, hcont⟩ := hq
    have hst := qR_step hqr
    have hno2 : ∀ d z as, y ≠ .cally d z as := by
      intro d z as e; rw [e] at hqr; simp [qR] at hqr
    have hfo : fitsOp P N o y = true := by
      cases y <;> first | exact hf | exact absurd rfl (hno _ _ _) | exact absurd rfl (hno2 _ _ _)
    have hd : o.dst = some d := by
      have hds := hst.2
      cases y <;> simp only [AOp.dst, Option.some.injEq, reduceCtorEq] at hds <;>
        (subst hds; simp only [fitsOp, Bool.and_eq_true, beq_iff_eq] at hfo; first | exact hfo.1.1 | (simp at hfo))
    refine ⟨d, r, hcont, ?_, hd⟩
    intro τ a w O vals fp next hle ho hn
    unfold wpOp
    rw [hi]
    simp only [hw τ a w O vals fp hle ho, if_true]
    left
    exact upon_step (K := fun s => s = puts d r τ) (step_sound hfo ho (qR_step (qR_mono hle hqr)).1) rfl (next_of rfl hn)

mutual
theorem mapR_idem (d : Nat) : (b : A) → (b.mapR (killG d 0)).mapR (killG d 0) = b.mapR (killG d 0)
  | .top => rfl
  | .val _ => rfl
  | .ref r p => by
    simp only [A.mapR, killG, Nat.zero_le, and_true]
    by_cases h : r = d
    · simp [h, A.mapR]
    · simp [h, A.mapR, killG]
  | .addr r p c => by
    simp only [A.mapR, killG, Nat.zero_le, and_true]
    by_cases h : r = d
    · simp [h, A.mapR]
    · simp [h, A.mapR, killG]
  | .fad _ => rfl
  | .agg as => by simp only [A.mapR]; rw [mapRL_idem d as]
  | .clo f as => by simp only [A.mapR]; rw [mapRL_idem d as]
theorem mapRL_idem (d : Nat) : (bs : List A) → mapRL (killG d 0) (mapRL (killG d 0) bs) = mapRL (killG d 0) bs
  | [] => rfl
  | b :: r => by simp only [mapRL]; rw [mapR_idem d b, mapRL_idem d r]
end

theorem look_append (A B : St) (s : Nat) : look (A ++ B) s = if hasKey s A then look A s else look B s := by
  induction A with
  | nil => simp [hasKey]
  | cons e r ih =>
    obtain ⟨k, a⟩ := e
    simp only [List.cons_append, look, hasKey]
    by_cases h : k = s
    · subst h; simp
    · rw [if_neg h, if_neg h, ih]; simp [h]

theorem hideS_key (hide : List Nat) (A : St) (s : Nat) : hasKey s (hideS hide A) = (hasKey s A && !hide.contains s) := by
  induction A with
  | nil => simp [hideS, hasKey]
  | cons e r ih =>
    obtain ⟨k, a⟩ := e
    simp only [hideS]
    by_cases hk : hide.contains k = true
    · rw [if_pos hk, ih]
      simp only [hasKey]
      by_cases h : k = s
      · subst h; rw [hk]; simp
      · rw [show (k == s) = false by simp [h], Bool.false_or]
    · rw [if_neg hk]
      simp only [hasKey, ih]
      have hk' : hide.contains k = false := by simpa using hk
      by_cases h : k = s
      · subst h; rw [hk']; simp
      · rw [show (k == s) = false by simp [h], Bool.false_or, Bool.false_or]

theorem hideS_look (hide : List Nat) (A : St) (s : Nat) (hs : hide.contains s = false) : look (hideS hide A) s = look A s := by
  induction A with
  | nil => rfl
  | cons e r ih =>
    obtain ⟨k, a⟩ := e
    simp only [hideS]
    split
    · rename_i hk
      simp only [look]
      rw [if_neg (by rintro rfl; rw [hk] at hs; cases hs), ih]
    · simp only [look, ih]

def kn : St → Bool
  | [] => true
  | (d, _) :: r => !hasKey d r && kn r

theorem key_get {H : St} {i s : Nat} {r : A} (h : H[i]? = some (s, r)) : hasKey s H = true := by
  induction H generalizing i with
  | nil => simp at h
  | cons e q ih =>
    obtain ⟨k, a⟩ := e
    cases i with
    | zero => simp at h; simp [hasKey, h.1]
    | succ i => simp at h; simp [hasKey, ih h]

theorem get_key {H : List (Nat × A)} {s : Nat} (h : hasKey s H = true) : ∃ (i : Nat) (r : A), H[i]? = some (s, r) := by
  induction H with
  | nil => simp [hasKey] at h
  | cons e q ih =>
    obtain ⟨k, a⟩ := e
    simp only [hasKey, Bool.or_eq_true, beq_iff_eq] at h
    rcases h with rfl | h
    · exact ⟨0, a, by simp⟩
    · obtain ⟨i, r, hi⟩ := ih h; exact ⟨i + 1, r, by simpa using hi⟩

theorem kn_look {H : St} (hk : kn H = true) {i s : Nat} {r : A} (h : H[i]? = some (s, r)) : look H s = r := by
  induction H generalizing i with
  | nil => simp at h
  | cons e q ih =>
    obtain ⟨k, a⟩ := e
    simp only [kn, Bool.and_eq_true, Bool.not_eq_true'] at hk
    cases i with
    | zero => simp at h; obtain ⟨rfl, rfl⟩ := h; simp [look]
    | succ i =>
      simp at h
      have := key_get h
      simp only [look]
      rw [if_neg (by rintro rfl; rw [this] at hk; simp at hk)]
      exact ih hk.2 h

theorem kn_inj {H : St} (hk : kn H = true) {i j s : Nat} {r q : A} (h : H[i]? = some (s, r)) (h' : H[j]? = some (s, q)) : i = j := by
  induction H generalizing i j with
  | nil => simp at h
  | cons e t ih =>
    obtain ⟨k, a⟩ := e
    simp only [kn, Bool.and_eq_true, Bool.not_eq_true'] at hk
    cases i with
    | zero =>
      cases j with
      | zero => rfl
      | succ j => simp at h h'; obtain ⟨rfl, _⟩ := h; have := key_get h'; rw [this] at hk; simp at hk
    | succ i =>
      cases j with
      | zero => simp at h h'; obtain ⟨rfl, _⟩ := h'; have := key_get h; rw [this] at hk; simp at hk
      | succ j => simp at h h'; rw [ih hk.2 h h']

theorem kn_snoc {H : St} {d : Nat} {a : A} (hk : kn H = true) (hd : hasKey d H = false) : kn (H ++ [(d, a)]) = true := by
  induction H with
  | nil => rfl
  | cons e r ih =>
    obtain ⟨k, b⟩ := e
    simp only [kn, Bool.and_eq_true, Bool.not_eq_true'] at hk
    simp only [hasKey, Bool.or_eq_false_iff, beq_eq_false_iff_ne] at hd
    have hkey : ∀ A : St, hasKey k (A ++ [(d, a)]) = (hasKey k A || d == k) := by
      intro A
      induction A with
      | nil => simp [hasKey]
      | cons e r ih => obtain ⟨j, c⟩ := e; simp [hasKey, ih, Bool.or_assoc]
    simp only [List.cons_append, kn, Bool.and_eq_true, Bool.not_eq_true']
    refine ⟨?_, ih hk.2 hd.2⟩
    rw [hkey, hk.1]; simp; exact fun e => hd.1 e.symm

def over (S : Nat → Bool) : Nat → St → St
  | _, [] => []
  | k, e :: r => if S k then e :: over S (k + 1) r else over S (k + 1) r

theorem over_no {S : Nat → Bool} {s : Nat} : ∀ {H : St} {k}, hasKey s H = false → hasKey s (over S k H) = false := by
  intro H
  induction H with
  | nil => intro k _; rfl
  | cons e r ih =>
    intro k h
    obtain ⟨d, a⟩ := e
    simp only [hasKey, Bool.or_eq_false_iff] at h
    simp only [over]
    split
    · simp [hasKey, h.1, ih h.2]
    · exact ih h.2

theorem over_at {S : Nat → Bool} : ∀ {H : St} {k i s : Nat} {r : A}, kn H = true → H[i]? = some (s, r) → hasKey s (over S k H) = S (k + i) ∧ (S (k + i) = true → look (over S k H) s = r) := by
  intro H
  induction H with
  | nil => intro k i s r _ h; simp at h
  | cons e q ih =>
    intro k i s r hk h
    obtain ⟨d, a⟩ := e
    simp only [kn, Bool.and_eq_true, Bool.not_eq_true'] at hk
    cases i with
    | zero =>
      simp at h; obtain ⟨rfl, rfl⟩ := h
      simp only [over, Nat.add_zero]
      split
      · rename_i hS; simp [hasKey, look, hS]
      · rename_i hS
        have hS' : S k = false := by simpa using hS
        rw [over_no hk.1, hS']; simp
    | succ i =>
      simp at h
      have hne : d ≠ s := by rintro rfl; have := key_get h; rw [this] at hk; simp at hk
      obtain ⟨h1, h2⟩ := ih (k := k + 1) hk.2 h
      rw [show k + 1 + i = k + (i + 1) by omega] at h1 h2
      simp only [over]
      split
      · simp only [hasKey, look, if_neg hne]
        exact ⟨by simp [hne, h1], h2⟩
      · exact ⟨h1, h2⟩

theorem over_all : ∀ {H : St} {S : Nat → Bool} {k}, (∀ i, i < H.length → S (k + i) = true) → over S k H = H := by
  intro H
  induction H with
  | nil => intro S k _; rfl
  | cons e r ih =>
    intro S k h
    simp only [over]
    rw [if_pos (by simpa using h 0 (by simp)), ih fun i hi => by rw [show k + 1 + i = k + (i + 1) by omega]; exact h (i + 1) (by simpa using hi)]

theorem over_none : ∀ {H : St} {S : Nat → Bool} {k}, (∀ i, S i = false) → over S k H = [] := by
  intro H
  induction H with
  | nil => intro S k _; rfl
  | cons e r ih => intro S k h; simp [over, h k, ih h]

/-- the facts on the heads, gathered -/
structure Heads (P : Program) (ops : Array Oper) (gv : Nat → Value) (N : Nat) (Q : Exit → Act → World → Prop) (σ0 : St) (pre : List (G × List Nat)) (H : St) : Prop where
  len : H.length ≤ pre.length
  kn : kn H = true
  top : ∀ e ∈ H, look σ0 e.1 = .top
  idem : ∀ e ∈ H, e.2.mapR (killG e.1 0) = e.2
  dst : ∀ (i d : Nat) (r : A), (H : List (Nat × A))[i]? = some (d, r) → (ops[i]?).bind (fun o : Oper => o.dst) = some d
  ok : ∀ (i d : Nat) (r : A) (x : G) (hide : List Nat), (H : List (Nat × A))[i]? = some (d, r) → pre[i]? = some (x, hide) → HeadOk P ops gv N Q i (hideS hide (H.take i) ++ σ0) d r

theorem pre_sound {P : Program} {ops : Array Oper} {gv N Q} {σ0 : St} {all : List (G × List Nat)} {os : List Oper} (hfit : fitsGs P N ops (all.map (·.1)) os = true) (hos : ∀ j, j < os.length → os[j]? = ops[j]?) : ∀ (pre : List (G × List Nat)) (acc : St) (K : St → Prop),
    awpPre P σ0 pre acc K → acc.length + pre.length = all.length → (∀ j, pre[j]? = all[acc.length + j]?) → Heads P ops gv N Q σ0 all acc →
    ∃ H, Heads P ops gv N Q σ0 all H ∧ H.length = all.length ∧ K (H ++ σ0) := by
  intro pre
  induction pre with
  | nil => intro acc K h hl _ hh; exact ⟨acc, hh, by simpa using hl, h⟩
  | cons p r ih =>
    intro acc K h hl hpre hh
    obtain ⟨x, hide⟩ := p
    have hx : all[acc.length]? = some (x, hide) := by simpa using (hpre 0).symm
    have hlen : acc.length < all.length := (List.getElem?_eq_some_iff.1 hx).1
    -- the operation
    have getfit : ∀ {gs : List G} {os : List Oper} {i : Nat} {g : G}, fitsGs P N ops gs os = true → gs[i]? = some g → ∃ o, os[i]? = some o ∧ fitsG P N ops g o = true := by
      intro gs
      induction gs with
      | nil => intro os i g _ hi; simp at hi
      | cons g' gs ih' =>
        intro os i g hf hi
        cases os with
        | nil => simp [fitsGs] at hf
        | cons o os =>
          simp only [fitsGs, Bool.and_eq_true] at hf
          cases i with
          | zero => simp at hi; subst hi; exact ⟨o, by simp, hf.1⟩
          | succ i => simp at hi; obtain ⟨o', h1, h2⟩ := ih' hf.2 hi; exact ⟨o', by simpa using h1, h2⟩
    obtain ⟨o, ho, hfg⟩ := getfit (i := acc.length) (g := x) hfit (by rw [List.getElem?_map, hx]; rfl)
    have hoi : ops[acc.length]? = some o := by rw [← hos _ (List.getElem?_eq_some_iff.1 ho).1]; exact ho
    simp only [fitsG, Bool.and_eq_true, beq_iff_eq] at hfg
    obtain ⟨⟨⟨hfo, hdst⟩, hdN⟩, hg⟩ := hfg
    -- one head more
    have more : ∀ d a', fresh d acc σ0 = true → o.dst = some d → HeadOk P ops gv N Q acc.length (hideS hide acc ++ σ0) d a' → awpPre P σ0 r (acc ++ [(d, a'.mapR (killG d 0))]) K →
        ∃ H, Heads P ops gv N Q σ0 all H ∧ H.length = all.length ∧ K (H ++ σ0) := by
      intro d a' hfr hod hok hrest
      simp only [fresh, Bool.and_eq_true, Bool.not_eq_true'] at hfr
      have htop : look σ0 d = .top := by
        have := hfr.2; unfold isTop at this; split at this
        · assumption
        · cases this
      refine ih (acc ++ [(d, a'.mapR (killG d 0))]) K hrest (by simp at hl ⊢; omega) (fun j => by
        have := hpre (j + 1)
        simp at this ⊢
        rw [this]; congr 1; omega) ⟨by simp; omega, kn_snoc hh.kn hfr.1, ?_, ?_, ?_, ?_⟩
      · intro e he
        rcases List.mem_append.1 he with he | he
        · exact hh.top e he
        · simp at he; subst he; exact htop
      · intro e he
        rcases List.mem_append.1 he with he | he
        · exact hh.idem e he
        · simp at he; subst he; exact mapR_idem _ _
      · intro i d' r' hi
        rcases Nat.lt_or_ge i acc.length with hlt | hge
        · rw [List.getElem?_append_left hlt] at hi; exact hh.dst i d' r' hi
        · have hi' := (List.getElem?_eq_some_iff.1 hi).1
          simp at hi'
          have : i = acc.length := by omega
          subst this
          simp at hi
          rw [hoi]; simp [hod, hi.1]
      · intro i d' r' y hide' hi hp
        rcases Nat.lt_or_ge i acc.length with hlt | hge
        · rw [List.getElem?_append_left hlt] at hi
          rw [List.take_append_of_le_length (by omega)]
          exact hh.ok i d' r' y hide' hi hp
        · have hi' := (List.getElem?_eq_some_iff.1 hi).1
          simp at hi'
          have : i = acc.length := by omega
          subst this
          simp at hi
          obtain ⟨rfl, rfl⟩ := hi
          rw [hx] at hp
          simp at hp
          obtain ⟨rfl, rfl⟩ := hp
          rw [List.take_append_of_le_length (Nat.le_refl _), List.take_length]
          intro τ a w O vals fp next hle hτ hn
          refine hok τ a w O vals fp next hle hτ ?_
          intro a1 w1 O1 vals1 fp1 h1 h2
          have : puts d (a'.mapR (killG d 0)) τ = puts d a' τ := by
            simp only [puts, mapR_idem]
          rw [this] at hn
          exact hn a1 w1 O1 vals1 fp1 h1 h2
    simp only [awpPre] at h
    split at h
    · rename_i hxg
      rw [hxg] at hg
      have hog : o.guard = none := by
        cases hog : o.guard with
        | none => rfl
        | some q => rw [hog] at hg; simp at hg
      obtain ⟨d, a', ⟨hfr, hrest⟩, hok, hod⟩ := preOp_ok (Q := Q) (gv := gv) hoi hfo h (fun _ _ _ _ _ _ _ _ => by simp [Region.wanted, hog])
      exact more d a' hfr hod hok hrest
    · rename_i s want hxg
      rw [hxg] at hg
      cases hog : o.guard with
      | none => rw [hog] at hg; simp at hg
      | some q =>
        obtain ⟨j, want'⟩ := q
        rw [hog] at hg
        simp only [Bool.and_eq_true, beq_iff_eq, decide_eq_true_eq] at hg
        obtain ⟨⟨rfl, hsN⟩, hj⟩ := hg
        split at hj
        case h_2 => cases hj
        rename_i s2 hs2
        have : s2 = s := by simpa using hj
        subst this
        have skip : (match x.o.dst with
            | some d => fresh d acc σ0 = true ∧ awpPre P σ0 r (acc ++ [(d, .val (.tup []))]) K
            | none => False) → (∀ τ a w O vals fp, Le (hideS hide acc ++ σ0) τ → Ok τ a w O gv N vals fp → Region.wanted o (yielded ops a.tmps) = false) →
            ∃ H, Heads P ops gv N Q σ0 all H ∧ H.length = all.length ∧ K (H ++ σ0) := by
          intro h2 hw
          split at h2
          case h_2 => exact h2.elim
          rename_i d hd
          have hod : o.dst = some d := by rw [hdst, hd]
          refine more d (.val (.tup [])) h2.1 hod ?_ h2.2
          intro τ a w O vals fp next hle hτ hn
          unfold wpOp
          rw [hoi]
          simp only [hw τ a w O vals fp hle hτ]
          obtain ⟨vals', fp', k1, k2⟩ := skip_ok (ao := x.o) hτ hdst (by intro d' hd'; rw [hd'] at hdN; simpa using hdN)
          have : skipA x.o τ = puts d (.val (.tup [])) τ := by simp [skipA, hd]
          rw [this] at k1
          exact hn _ _ _ _ _ k1 ((Mv.refl _ _ _).shrink k2)
        split at h
        case h_3 => exact h.elim
        case h_2 =>
          rename_i hb
          refine skip h fun τ a w O vals fp hle hτ => ?_
          have : look τ s2 = .val (.tup []) := by
            rcases hle s2 with h1 | h1
            · rw [h1] at hb; cases hb
            · rw [h1]; exact hb
          simp [Region.wanted, hog, yielded_non hτ hs2 hsN this]
        rename_i b hb
        have hyield : ∀ τ a w O vals fp, Le (hideS hide acc ++ σ0) τ → Ok τ a w O gv N vals fp → yielded ops a.tmps j = some b := by
          intro τ a w O vals fp hle hτ
          refine yielded_of hτ hs2 hsN ?_
          rcases hle s2 with h1 | h1
          · rw [h1] at hb; cases hb
          · rw [h1]; exact hb
        by_cases hbw : b = want
        · obtain ⟨d, a', ⟨hfr, hrest⟩, hok, hod⟩ := preOp_ok (Q := Q) (gv := gv) hoi hfo (h.1 hbw) (fun τ a w O vals fp hle hτ => by
            simp [Region.wanted, hog, hyield τ a w O vals fp hle hτ, hbw])
          exact more d a' hfr hod hok hrest
        · have hbn : b = (!want) := by cases b <;> cases want <;> simp_all
          exact skip (h.2 hbn) fun τ a w O vals fp hle hτ => by simp [Region.wanted, hog, hyield τ a w O vals fp hle hτ, hbw]

end Go.Proofs.Ythcnmahjhahafaa.Ax
