/-
  The small operations: what each does to a state, and when an operation of the program's is such a one.
-/
import Derived.Test.YthcnmahjhahafaaAxD
namespace Go.Proofs.Ythcnmahjhahafaa.Ax
open Go

inductive X where
  | t (s : Nat)
  | c (v : V)

inductive AOp where
  | mov (d : Nat) (x : X)
  | asg (d : Nat) (x : X)
  | pick (d : Nat) (c x y : X)
  | bin (d : Nat) (op : BinOp) (x y : X)
  | binb (d : Nat) (op : BinOp) (x y : X)
  | un (d : Nat) (op : UnOp) (x : X)
  | len (d : Nat) (x : X)
  | slen (d : Nat) (x : X)
  | max (d : Nat) (x y : X)
  | ext (d : Nat) (x : X) (i : Nat)
  | iad (d m : Nat) (x i : X)
  | aad (d m n : Nat) (x i : X)
  | fadr (d off : Nat) (x : X)
  | ld (d n : Nat) (ag : Bool) (x : X)
  | st (n : Nat) (x v : X)
  | fld (d off n : Nat) (ag : Bool) (x : X)
  | idx (d m n : Nat) (ag : Bool) (x i : X)
  | box (d : Nat) (x : X)
  | alc (d : Nat) (z : V)
  | mk (d m : Nat) (z : V) (x : X)
  | bsl (d m : Nat) (ps : List X)
  | bld (d : Nat) (z : List V) (ps : List (Nat × Nat × X))
  | app (d m : Nat) (x y : X)
  | slc (d m : Nat) (x : X) (lo hi : Option X)
  | nck (d : Nat) (x : X)
  | mkf (d f : Nat) (cs : List X)
  | call (d f : Nat) (as : List (X × Bool))
  | cally (d : Nat) (x : X) (as : List X)

mutual
def cRd : V → Value → Bool
  | .int k n, .int k' n' => k == k' && n == n'
  | .bool b, .bool b' => b == b'
  | .str s, .string s' => s.data.toList == s'.data.toList
  | .nilp, .pointer none => true
  | .nilsl _, .slice none 0 0 => true
  | .agg cs, .agg vs => cRdL cs vs.toList
  | .dead, _ => true
  | _, _ => false
def cRdL : List V → List Value → Bool
  | [], [] => true
  | c :: cs, v :: vs => cRd c v && cRdL cs vs
  | _, _ => false
end

theorem cRd_nilp {v : Value} (h : cRd .nilp v = true) : v = .pointer none := by
  unfold cRd at h
  split at h <;> simp_all

theorem cRd_nilsl {m : Nat} {v : Value} (h : cRd (.nilsl m) v = true) : v = .slice none 0 0 := by
  unfold cRd at h
  split at h <;> simp_all

mutual
theorem cRd_rd (w : World) (O : Nat → Prop) : (c : V) → (v : Value) → cRd c v = true → RdL w O [c] [v] [] ∧ c.hasOwn = false
  | .int k n, v, h => by
    cases v <;> simp only [cRd, Bool.and_eq_true, beq_iff_eq, Bool.false_eq_true] at h
    obtain ⟨rfl, rfl⟩ := h; exact ⟨.leaf (.int _ _) .nil, rfl⟩
  | .bool b, v, h => by
    cases v <;> simp only [cRd, beq_iff_eq, Bool.false_eq_true] at h
    subst h; exact ⟨.leaf (.bool _) .nil, rfl⟩
  | .str s, v, h => by
    cases v <;> simp only [cRd, beq_iff_eq, Bool.false_eq_true] at h
    rename_i s'
    have : s = s' := by
      cases s; cases s'; congr; exact Array.toList_inj.1 h
    subst this; exact ⟨.leaf (.str _) .nil, rfl⟩
  | .nilp, v, h => by rw [cRd_nilp h]; exact ⟨.leaf .nilp .nil, rfl⟩
  | .nilsl m, v, h => by rw [cRd_nilsl h]; exact ⟨.leaf (.nilsl _) .nil, rfl⟩
  | .agg cs, v, h => by
    cases v <;> simp only [cRd, Bool.false_eq_true] at h
    rename_i vs
    obtain ⟨h1, h2⟩ := cRdL_rd w O cs vs.toList h
    exact ⟨by simpa using RdL.grp (.agg cs vs.toList) h1 .nil, h2⟩
  | .dead, v, _ => ⟨.leaf (.dead _) .nil, rfl⟩
  | .sl _ _ _, v, h => by cases v <;> simp [cRd] at h
  | .ptr _ _, v, h => by cases v <;> simp [cRd] at h
  | .tup _, v, h => by cases v <;> simp [cRd] at h
  | .clo _ _, v, h => by cases v <;> simp [cRd] at h
theorem cRdL_rd (w : World) (O : Nat → Prop) : (cs : List V) → (vs : List Value) → cRdL cs vs = true → RdL w O cs vs [] ∧ anyOwn cs = false
  | [], [], _ => ⟨.nil, rfl⟩
  | c :: cs, v :: vs, h => by
    simp only [cRdL, Bool.and_eq_true] at h
    obtain ⟨h1, h2⟩ := cRd_rd w O c v h.1
    obtain ⟨h3, h4⟩ := cRdL_rd w O cs vs h.2
    exact ⟨by simpa using h1.append h3, by simp [anyOwn, h2, h4]⟩
  | [], _ :: _, h => by simp [cRdL] at h
  | _ :: _, [], h => by simp [cRdL] at h
end

def evalX (σ : St) : X → A
  | .c v => .val v
  | .t s => match look σ s with
    | .val v => if v.hasOwn then .ref s [] else .val v
    | a => a

def fitsX (N : Nat) : X → Operand → Bool
  | .t s, .tmp s' => s == s' && decide (s < N)
  | .c v, .const u => cRd v u
  | .c (.clo f []), .func f' => f == f'
  | _, _ => false

theorem evalX_rel {σ a w O gv N vals fp} (h : Ok σ a w O gv N vals fp) {x : X} {o : Operand} (hf : fitsX N x o = true) :
    RelL w O (look σ) vals [evalX σ x] [a.eval o] := by
  cases x with
  | c v =>
    cases o with
    | const u =>
      have hc : cRd v u = true := by cases v <;> simpa [fitsX] using hf
      obtain ⟨h1, h2⟩ := cRd_rd w O v u hc
      exact .val h2 h1 .nil
    | func f' =>
      cases v with
      | clo f cs =>
        cases cs with
        | nil =>
          simp [fitsX] at hf; subst hf
          exact .val rfl (RdL.grp (w := w) (O := O) (fp1 := []) (fp2 := []) (.clo f [] []) .nil .nil) .nil
        | cons _ _ => simp [fitsX] at hf
      | _ => simp [fitsX] at hf
    | _ => cases v <;> simp [fitsX] at hf
  | t s =>
    cases o with
    | tmp s' =>
      simp [fitsX] at hf
      obtain ⟨rfl, hs⟩ := hf
      have e : a.eval (.tmp s) = vals s := by rw [h.lo s hs]; rfl
      rw [e]
      simp only [evalX]
      cases hL : look σ s with
      | val v =>
        have hr := h.sim.own s v hL
        by_cases ho : v.hasOwn = true
        · simp only [ho, if_true]
          exact .ref hL rfl rfl .nil
        · simp only [ho]
          have hn : v.hasOwn = false := by simpa using ho
          have : fp s = [] := hr.noOwn (by simp [anyOwn, hn])
          rw [this] at hr
          exact .val hn hr .nil
      | _ =>
        have := h.sim.rel s (by simp [hL])
        rw [hL] at this
        exact this
    | _ => simp [fitsX] at hf

/-- where an address leads -/
inductive Loc where
  | own (r : Nat) (p : List Nat) (c : Nat)
  | fro (cs : List V)

def nodeAt (σ : St) (r : Nat) (p : List Nat) : Option V := match look σ r with
  | .val V => sub p V
  | _ => none

def locOf (σ : St) : A → Option Loc
  | .addr r p c => some (.own r p c)
  | .ref r p => match nodeAt σ r p with
    | some (.ptr o _) => if o then some (.own r p 0) else none
    | _ => none
  | .fad cs => some (.fro cs)
  | .val (.ptr o x) => if o then none else some (.fro x.cells)
  | _ => none

def LocRel (w : World) (O : Nat → Prop) (L : Nat → A) (vals : Nat → Value) : Loc → Value → Prop
  | .own r p c, v => ∃ V u hdr b, L r = .val V ∧ sub p V = some u ∧ u.node = true ∧ valAt w p (vals r) = some hdr ∧ hdrBlock hdr = some b ∧ v = .pointer (some ⟨b, c, none⟩)
  | .fro cs, v => ∃ us b o, v = .pointer (some ⟨b, o, none⟩) ∧ (∀ i, i < us.length → w.cell? ⟨b, o + i, none⟩ = us[i]?) ∧ ((cs = [] ∨ ¬ O b) ∧ anyOwn cs = false) ∧ RdL w O cs us []

theorem rd_ptr_false {w O x v fp} (h : RdL w O [.ptr false x] [v] fp) :
    ∃ us b o, v = .pointer (some ⟨b, o, none⟩) ∧ (∀ i, i < us.length → w.cell? ⟨b, o + i, none⟩ = us[i]?) ∧ ((x.cells = [] ∨ ¬ O b) ∧ anyOwn x.cells = false) ∧ RdL w O x.cells us [] := by
  cases h with
  | leaf hl _ => cases hl
  | grp hg _ _ => cases hg
  | fblk hh hc hO s _ => cases hh; exact ⟨_, _, _, rfl, hc, hO, s⟩
  | oblk hh _ _ _ _ _ => cases hh

theorem rd_node {w O u v fp} (h : RdL w O [u] [v] fp) (hn : u.node = true) : (∃ m, u = .sl true m [] ∧ v = .slice none 0 0 ∧ fp = []) ∨ ∃ b k arr e fp1, Hdr u v true b 0 k u.kids ∧ w.heap[b]? = some (.cells arr e (0, 0)) ∧ O b ∧ k ≤ arr.size ∧
    RdL w O u.kids (arr.toList.take u.kids.length) fp1 ∧ fp = b :: fp1 := by
  cases h with
  | leaf hl t =>
    cases t
    cases hl with
    | nils1 m => exact .inl ⟨m, rfl, rfl, rfl⟩
    | _ => simp [V.node] at hn
  | grp hg _ _ => cases hg <;> simp [V.node] at hn
  | fblk hh _ _ _ _ => cases hh <;> simp [V.node] at hn
  | oblk hh hb hO hk s t =>
    cases t
    have := hh.kids
    subst this
    exact .inr ⟨_, _, _, _, _, hh, hb, hO, hk, s, by simp⟩

theorem locOf_rel {σ a w O gv N vals fp} (h : Ok σ a w O gv N vals fp) {x : A} {v : Value} {l : Loc} (hr : RelL w O (look σ) vals [x] [v]) (hl : locOf σ x = some l) :
    LocRel w O (look σ) vals l v := by
  cases hr with
  | top _ => simp [locOf] at hl
  | agg _ _ => simp [locOf] at hl
  | clo _ _ => simp [locOf] at hl
  | addr hL hs hn hv hb _ => simp [locOf] at hl; subst hl; exact ⟨_, _, _, _, hL, hs, hn, hv, hb, rfl⟩
  | fad hc hO hr _ => simp [locOf] at hl; subst hl; exact ⟨_, _, _, rfl, hc, hO, hr⟩
  | @val y _ _ _ hn hr _ =>
    cases y with
    | ptr o z =>
      cases o
      · simp [locOf] at hl; subst hl; exact rd_ptr_false hr
      · simp [locOf] at hl
    | _ => simp [locOf] at hl
  | @ref r p V u _ _ _ hL hs hv _ =>
    simp only [locOf, nodeAt, hL, hs] at hl
    cases u with
    | ptr o z =>
      cases o
      · simp at hl
      · simp at hl; subst hl
        obtain ⟨x, fp1, fpu, fp2, _, hx, hru, _⟩ := ctx p (h.sim.own r V hL) hs
        rw [hv] at hx; cases hx
        obtain ⟨b, k, arr, e, f1, hh, _⟩ := (rd_node hru rfl).resolve_left (by rintro ⟨m, c, _⟩; cases c)
        refine ⟨V, _, v, b, hL, hs, rfl, hv, hh.block, ?_⟩
        cases hh; rfl
    | _ => simp at hl

/-- a cell that is looked at where it lies -/
def celA (r : Nat) (p : List Nat) (c : Nat) (k : V) : A := if k.hasOwn then .ref r (p ++ [c]) else .val k

def celAs (r : Nat) (p : List Nat) : Nat → List V → List A
  | _, [] => []
  | c, k :: ks => celA r p c k :: celAs r p (c + 1) ks

def allVal : List A → Option (List V)
  | [] => some []
  | .val v :: r => (allVal r).map (v :: ·)
  | _ :: _ => none

/-- one value out of cells -/
def mkA (ag : Bool) (as : List A) : A := if ag then (match allVal as with | some vs => .val (.agg vs) | none => .agg as) else (match as with | [a] => a | _ => .top)

def loadA (σ : St) (n : Nat) (ag : Bool) : Loc → Option A
  | .own r p c => match nodeAt σ r p with
    | some u => if c + n ≤ u.kids.length then some (mkA ag (celAs r p c ((u.kids.drop c).take n))) else none
    | none => none
  | .fro cs => if n ≤ cs.length then some (if ag then .val (.agg (cs.take n)) else (match cs.take n with | [v] => .val v | _ => .top)) else none

/-- the state in which the tree of r has changed -/
def turnS (r : Nat) (V' : V) (n : Nat) : St → St
  | [] => []
  | (k, a) :: rest => (k, if k = r then .val V' else a.mapR (killG r n)) :: turnS r V' n rest

def takeA (σ : St) : A → Option (V × St)
  | .val v => some (v.up, σ)
  | .ref r [] => match look σ r with
    | .val V => some (V, puts r .top σ)
    | _ => none
  | .ref r (c :: p) => match look σ r with
    | .val V => match sub (c :: p) V with
      | some u => match upd (c :: p) V .dead with
        | some V' => some (u, turnS r V' (p.length + 1) σ)
        | none => none
      | none => none
    | _ => none
  | _ => none

def takeL (σ : St) : List A → Option (List V × St)
  | [] => some ([], σ)
  | a :: r => match takeA σ a with
    | some (v, σ1) => match takeL σ1 r with
      | some (vs, σ2) => some (v :: vs, σ2)
      | none => none
    | none => none

def takeX (σ : St) : A → Option (V × St)
  | .agg as => match takeL σ as with
    | some (vs, σ') => some (.agg vs, σ')
    | none => none
  | a => takeA σ a

def allCell (us : List V) : Bool := us.all V.isCell

def storeA (σ : St) (n : Nat) (x v : X) : Option St :=
  match takeX σ (evalX σ v) with
  | some (U, σ1) => match locOf σ1 (evalX σ1 x) with
    | some (.own r p c) => match look σ1 r with
      | .val V => match sub p V with
        | some nd => if nd.node && decide (U.cells.length = n) && allCell U.cells then
            match nd.setKids c U.cells with
            | some nd' => match upd p V nd' with
              | some V' => some (turnS r V' (p.length + 1) σ1)
              | none => none
            | none => none
          else none
        | none => none
      | _ => none
    | _ => none
  | none => none

def binV : BinOp → V → V → Option V
  | .shl, .int k a, .int _ b => if b < 0 then none else some (.int k (k.wrap (a * 2 ^ (min b.toNat k.bits))))
  | .shr, .int k a, .int _ b => if b < 0 then none else some (.int k (a.fdiv (2 ^ (min b.toNat k.bits))))
  | op, .int k a, .int k' b => if k = k' then (match op with
    | .add => some (.int k (k.wrap (a + b)))
    | .sub => some (.int k (k.wrap (a - b)))
    | .mul => some (.int k (k.wrap (a * b)))
    | .quo => if b = 0 then none else some (.int k (k.wrap (a.tdiv b)))
    | .rem => if b = 0 then none else some (.int k (a.tmod b))
    | .and => some (.int k (k.wrap (BitVec.ofInt k.bits a &&& BitVec.ofInt k.bits b).toNat))
    | .or => some (.int k (k.wrap (BitVec.ofInt k.bits a ||| BitVec.ofInt k.bits b).toNat))
    | .xor => some (.int k (k.wrap (BitVec.ofInt k.bits a ^^^ BitVec.ofInt k.bits b).toNat))
    | .eql => some (.bool (a == b))
    | .neq => some (.bool (a != b))
    | .lss => some (.bool (decide (a < b)))
    | .leq => some (.bool (decide (a ≤ b)))
    | .gtr => some (.bool (decide (a > b)))
    | .geq => some (.bool (decide (a ≥ b)))
    | _ => none) else none
  | .eql, .bool a, .bool b => some (.bool (a == b))
  | .neq, .bool a, .bool b => some (.bool (!(a == b)))
  | .eql, .str a, .str b => some (.bool (a.toList == b.toList))
  | .neq, .str a, .str b => some (.bool (!(a.toList == b.toList)))
  | _, _, _ => none

def unV : UnOp → V → Option V
  | .not, .bool b => some (.bool !b)
  | .neg, .int k n => some (.int k (k.wrap (0 - n)))
  | _, _ => none

def lenA (σ : St) : A → Option Nat
  | .val (.sl _ _ xs) => some xs.length
  | .val (.nilsl _) => some 0
  | .ref r p => match nodeAt σ r p with
    | some (.sl _ _ xs) => some xs.length
    | _ => none
  | _ => none

end Go.Proofs.Ythcnmahjhahafaa.Ax
