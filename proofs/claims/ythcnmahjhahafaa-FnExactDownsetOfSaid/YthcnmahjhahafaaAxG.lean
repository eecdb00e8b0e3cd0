/-
  The operations that reckon, and those that look into memory.
-/
import Derived.Test.YthcnmahjhahafaaAxF
import Derived.Laws.Small
namespace Go.Proofs.Ythcnmahjhahafaa.Ax
open Go

theorem rd_leaf_int {w O k n v fp} (h : RdL w O [.int k n] [v] fp) : v = .int k n := by
  cases h with
  | leaf hl _ => cases hl; rfl
  | grp hg _ _ => cases hg
  | fblk hh _ _ _ _ => cases hh
  | oblk hh _ _ _ _ _ => cases hh
theorem rd_leaf_bool {w O b v fp} (h : RdL w O [.bool b] [v] fp) : v = .bool b := by
  cases h with
  | leaf hl _ => cases hl; rfl
  | grp hg _ _ => cases hg
  | fblk hh _ _ _ _ => cases hh
  | oblk hh _ _ _ _ _ => cases hh
theorem rd_leaf_str {w O s v fp} (h : RdL w O [.str s] [v] fp) : v = .string s := by
  cases h with
  | leaf hl _ => cases hl; rfl
  | grp hg _ _ => cases hg
  | fblk hh _ _ _ _ => cases hh
  | oblk hh _ _ _ _ _ => cases hh
theorem rd_sl {w O o m xs v fp} (h : RdL w O [.sl o m xs] [v] fp) : ∃ p cap, v = .slice p xs.length cap := by
  cases h with
  | leaf hl _ => cases hl <;> exact ⟨_, _, rfl⟩
  | grp hg _ _ => cases hg
  | fblk hh _ _ _ _ => cases hh; exact ⟨_, _, rfl⟩
  | oblk hh _ _ _ _ _ => cases hh; exact ⟨_, _, rfl⟩
theorem rd_nilsl {w O m v fp} (h : RdL w O [.nilsl m] [v] fp) : v = .slice none 0 0 := by
  cases h with
  | leaf hl _ => cases hl; rfl
  | grp hg _ _ => cases hg
  | fblk hh _ _ _ _ => cases hh
  | oblk hh _ _ _ _ _ => cases hh
theorem rd_agg {w O cs v fp} (h : RdL w O [.agg cs] [v] fp) : ∃ vs, v = .agg vs.toArray ∧ RdL w O cs vs fp := by
  cases h with
  | leaf hl _ => cases hl
  | grp hg s t => cases hg; cases t; exact ⟨_, rfl, by simpa using s⟩
  | fblk hh _ _ _ _ => cases hh
  | oblk hh _ _ _ _ _ => cases hh
theorem rd_tup {w O cs v fp} (h : RdL w O [.tup cs] [v] fp) : ∃ vs, v = .tuple vs.toArray ∧ RdL w O cs vs fp := by
  cases h with
  | leaf hl _ => cases hl
  | grp hg s t => cases hg; cases t; exact ⟨_, rfl, by simpa using s⟩
  | fblk hh _ _ _ _ => cases hh
  | oblk hh _ _ _ _ _ => cases hh

def valOf : A → Option V
  | .val v => some v
  | _ => none

theorem valOf_rel {w O L vals x v u} (h : RelL w O L vals [x] [v]) (hv : valOf x = some u) : RdL w O [u] [v] [] ∧ u.hasOwn = false := by
  cases h with
  | val hn hr _ => simp [valOf] at hv; subst hv; exact ⟨hr, hn⟩
  | _ => simp [valOf] at hv

/-- the type of the operands of a comparison -/
def cmpOk (P : Program) (_op : BinOp) (t : TypeId) (x y : V) : Bool := match x, y with
  | .int _ _, .int _ _ => true
  | .str _, .str _ => true
  | .bool _, .bool _ => (match P.underlying t with | some .bool => true | _ => false)
  | _, _ => false

theorem binV_run {P : Program} {op : BinOp} {t : TypeId} {x y : V} {u : V} {vx vy : Value} {w : World} {O fx fy} (hb : binV op x y = some u) (hx : RdL w O [x] [vx] fx) (hy : RdL w O [y] [vy] fy)
    (hc : (∀ b, x = .bool b → P.underlying t = some .bool)) :
    ∃ v, (binOp op t vx vy).run P w = .ok v w ∧ RdL w O [u] [v] [] ∧ u.hasOwn = false ∧ (∀ xo yo, (eqGuard op t xo yo vx vy).run P w = .ok () w) := by
  have guard_int : ∀ (k k' : IntKind) (a b : Int) xo yo, (eqGuard op t xo yo (.int k a) (.int k' b)).run P w = .ok () w := by
    intro k k' a b xo yo; unfold eqGuard; cases op <;> simp
  cases x with
  | int k a =>
    cases y with
    | int k' b =>
      rw [rd_leaf_int hx, rd_leaf_int hy]
      have i1 : ∀ k n, RdL w O [.int k n] [.int k n] [] ∧ (V.int k n).hasOwn = false := fun k n => ⟨.leaf (.int _ _) .nil, rfl⟩
      have i2 : ∀ b, RdL w O [.bool b] [.bool b] [] ∧ (V.bool b).hasOwn = false := fun b => ⟨.leaf (.bool _) .nil, rfl⟩
      cases op <;> simp only [binV] at hb
      case shl =>
        split at hb <;> cases hb
        rename_i hneg
        exact ⟨.int k _, by simp [binOp, Op.shift, hneg], (i1 _ _).1, (i1 _ _).2, guard_int _ _ _ _⟩
      case shr =>
        split at hb <;> cases hb
        rename_i hneg
        exact ⟨.int k _, by simp [binOp, Op.shift, hneg], (i1 _ _).1, (i1 _ _).2, guard_int _ _ _ _⟩
      all_goals
        (first
          | (simp at hb; done)
          | (split at hb
             case isFalse => cases hb
             rename_i hk
             subst hk
             first
              | (cases hb; exact ⟨.int k _, by simp [binOp, Op.intArith, Op.intBits], (i1 _ _).1, (i1 _ _).2, guard_int _ _ _ _⟩)
              | (cases hb; exact ⟨.bool _, by simp [binOp, Op.intCmp], (i2 _).1, (i2 _).2, guard_int _ _ _ _⟩)
              | (split at hb
                 case isTrue => cases hb
                 rename_i hz
                 cases hb; exact ⟨.int k _, by simp [binOp, Op.intDiv, hz], (i1 _ _).1, (i1 _ _).2, guard_int _ _ _ _⟩)
              | (cases hb; done)))
    | _ => cases op <;> simp [binV] at hb
  | bool a =>
    cases y with
    | bool b =>
      rw [rd_leaf_bool hx, rd_leaf_bool hy]
      have ht := hc a rfl
      have gd : ∀ xo yo, (eqGuard op t xo yo (.bool a) (.bool b)).run P w = .ok () w := by
        intro xo yo; unfold eqGuard; cases op <;> simp
      have he : (Op.equal t (.bool a) (.bool b)).run P w = .ok (a == b) w := by
        exact run_equal_bool _ t a b ht
      cases op <;> simp [binV] at hb
      · subst hb; exact ⟨.bool (a == b), by simp [binOp, he], .leaf (.bool _) .nil, rfl, gd⟩
      · subst hb; exact ⟨.bool (!(a == b)), by simp [binOp, he], .leaf (.bool _) .nil, rfl, gd⟩
    | _ => cases op <;> simp [binV] at hb
  | str a =>
    cases y with
    | str b =>
      rw [rd_leaf_str hx, rd_leaf_str hy]
      have gd : ∀ xo yo, (eqGuard op t xo yo (.string a) (.string b)).run P w = .ok () w := by
        intro xo yo; unfold eqGuard; cases op <;> simp
      cases op <;> simp [binV] at hb
      · subst hb; exact ⟨.bool (a.toList == b.toList), by simp [binOp, Op.stringOp], .leaf (.bool _) .nil, rfl, gd⟩
      · subst hb; exact ⟨.bool (!(a.toList == b.toList)), by simp [binOp, Op.stringOp], .leaf (.bool _) .nil, rfl, gd⟩
    | _ => cases op <;> simp [binV] at hb
  | _ => cases op <;> simp [binV] at hb

def binS (d : Nat) (op : BinOp) (x y : A) (σ : St) : Option St := match valOf x, valOf y with
  | some u, some v => (binV op u v).map fun r => puts d (.val r) σ
  | _, _ => none

theorem bin_ok {P : Program} {o : Oper} {σ σ' a w O gv N vals fp} {d : Nat} {op t yt x x' y y'} (h : Ok σ a w O gv N vals fp) (ho : o.op = .binOp op t x' y' yt) (hd : o.dst = some d) (hN : d < N)
    (hx : fitsX N x x' = true) (hy : fitsX N y y' = true) (hc : (∀ u b, valOf (evalX σ x) = some u → u = .bool b → P.underlying t = some .bool)) (hs : binS d op (evalX σ x) (evalX σ y) σ = some σ') :
    StepOk P o σ' a w O gv N fp := by
  simp only [binS] at hs
  split at hs
  case h_2 => cases hs
  rename_i u v hu hv
  obtain ⟨r, hb, rfl⟩ := Option.map_eq_some_iff.1 hs
  obtain ⟨ru, _⟩ := valOf_rel (evalX_rel h hx) hu
  obtain ⟨rv, _⟩ := valOf_rel (evalX_rel h hy) hv
  obtain ⟨z, hrun, hz, hn, hg⟩ := binV_run (P := P) (t := t) hb ru rv (fun b e => hc u b hu e)
  exact .rel h hd hN (.val hn hz .nil) (by simp [execOp, ho, hg, hrun])

def unS (d : Nat) (op : UnOp) (x : A) (σ : St) : Option St := match valOf x with
  | some u => (unV op u).map fun r => puts d (.val r) σ
  | _ => none

theorem un_ok {P : Program} {o : Oper} {σ σ' a w O gv N vals fp} {d : Nat} {op t x x'} (h : Ok σ a w O gv N vals fp) (ho : o.op = .unOp op t x') (hd : o.dst = some d) (hN : d < N)
    (hx : fitsX N x x' = true) (hs : unS d op (evalX σ x) σ = some σ') : StepOk P o σ' a w O gv N fp := by
  simp only [unS] at hs
  split at hs
  case h_2 => cases hs
  rename_i u hu
  obtain ⟨r, hb, rfl⟩ := Option.map_eq_some_iff.1 hs
  obtain ⟨ru, _⟩ := valOf_rel (evalX_rel h hx) hu
  cases u with
  | int k n =>
    cases op <;> simp [unV] at hb
    subst hb
    exact .rel h hd hN (.val rfl (.leaf (.int _ _) .nil) .nil) (by simp [execOp, ho, rd_leaf_int ru, Op.unary, Op.intArith])
  | bool b =>
    cases op <;> simp [unV] at hb
    subst hb
    exact .rel h hd hN (.val rfl (.leaf (.bool _) .nil) .nil) (by simp [execOp, ho, rd_leaf_bool ru, Op.unary])
  | _ => cases op <;> simp [unV] at hb

def pickS (d : Nat) (c x y : A) (σ : St) : Option St := match c with
  | .val (.bool b) => some (puts d (if b then x else y) σ)
  | _ => none

theorem pick_ok {P : Program} {o : Oper} {σ σ' a w O gv N vals fp} {d : Nat} {c c' x x' y y'} (h : Ok σ a w O gv N vals fp) (ho : o.op = .pick c' x' y') (hd : o.dst = some d) (hN : d < N)
    (hc : fitsX N c c' = true) (hx : fitsX N x x' = true) (hy : fitsX N y y' = true) (hs : pickS d (evalX σ c) (evalX σ x) (evalX σ y) σ = some σ') : StepOk P o σ' a w O gv N fp := by
  have hr := evalX_rel h hc
  cases hcc : evalX σ c with
  | val v =>
    cases v with
    | bool b =>
      rw [hcc] at hs hr
      simp [pickS] at hs; subst hs
      have hb : a.eval c' = .bool b := by cases hr with | val _ hr _ => exact rd_leaf_bool hr
      cases b
      · exact .rel h hd hN (evalX_rel h hy) (by simp [execOp, ho, hb, asBool])
      · exact .rel h hd hN (evalX_rel h hx) (by simp [execOp, ho, hb, asBool])
    | _ => rw [hcc] at hs; simp [pickS] at hs
  | _ => rw [hcc] at hs; simp [pickS] at hs

def lenS (d : Nat) (x : A) (σ : St) : Option St := (lenA σ x).map fun n => puts d (.val (.int .i64 n)) σ

theorem len_ok {P : Program} {o : Oper} {σ σ' a w O gv N vals fp} {d : Nat} {t e x x'} (h : Ok σ a w O gv N vals fp) (ho : o.op = .call { callee := .builtin .len, args := #[x'], argTypes := #[t] })
    (hd : o.dst = some d) (hN : d < N) (hx : fitsX N x x' = true) (he : P.underlying t = some (.slice e)) (hs : lenS d (evalX σ x) σ = some σ') : StepOk P o σ' a w O gv N fp := by
  obtain ⟨n, hn, rfl⟩ := Option.map_eq_some_iff.1 hs
  have hr := evalX_rel h hx
  have fin : ∀ v, a.eval x' = v → (Builtin.len_ #[t] o.type #[v]).run P w = .ok (.int .i64 n) w → StepOk P o (puts d (.val (.int .i64 n)) σ) a w O gv N fp := by
    intro v hv hrun
    exact .rel h hd hN (.val rfl (.leaf (.int _ _) .nil) .nil) (by simp [execOp, ho, resolve, invoke, builtin, hv, hrun])
  cases hcc : evalX σ x with
  | val v =>
    rw [hcc] at hn hr
    cases hr with
    | val _ hr _ =>
      cases v with
      | sl o' m xs =>
        obtain ⟨p, cap, hp⟩ := rd_sl hr
        simp [lenA] at hn; subst hn
        exact fin _ hp (by simp [Builtin.len_, run_underlying he, goInt])
      | nilsl m =>
        simp [lenA] at hn; subst hn
        exact fin _ (rd_nilsl hr) (by simp [Builtin.len_, run_underlying he, goInt])
      | _ => simp [lenA] at hn
  | ref r p =>
    rw [hcc] at hn hr
    cases hr with
    | @ref _ _ V u _ _ _ hL hs hv _ =>
      simp only [lenA, nodeAt, hL, hs] at hn
      obtain ⟨y, f1, f2, f3, _, hy, hru, _⟩ := ctx p (h.sim.own r V hL) hs
      rw [hv] at hy; cases hy
      cases u with
      | sl o' m xs =>
        obtain ⟨p', cap, hp⟩ := rd_sl hru
        simp at hn; subst hn
        exact fin _ hp (by simp [Builtin.len_, run_underlying he, goInt])
      | _ => simp at hn
  | _ => rw [hcc] at hn; simp [lenA] at hn

def slenS (d : Nat) (x : A) (σ : St) : Option St := match x with
  | .val (.str s) => some (puts d (.val (.int .i64 s.size)) σ)
  | _ => none

theorem slen_ok {P : Program} {o : Oper} {σ σ' a w O gv N vals fp} {d : Nat} {t x x'} (h : Ok σ a w O gv N vals fp) (ho : o.op = .call { callee := .builtin .len, args := #[x'], argTypes := #[t] })
    (hd : o.dst = some d) (hN : d < N) (hx : fitsX N x x' = true) (he : P.underlying t = some .string) (hs : slenS d (evalX σ x) σ = some σ') : StepOk P o σ' a w O gv N fp := by
  have hr := evalX_rel h hx
  cases hcc : evalX σ x with
  | val v =>
    cases v with
    | str s =>
      rw [hcc] at hs hr
      simp [slenS] at hs; subst hs
      have hv : a.eval x' = .string s := by cases hr with | val _ hr _ => exact rd_leaf_str hr
      exact .rel h hd hN (.val rfl (.leaf (.int _ _) .nil) .nil) (by simp [execOp, ho, resolve, invoke, builtin, hv, Builtin.len_, run_underlying he, goInt])
    | _ => rw [hcc] at hs; simp [slenS] at hs
  | _ => rw [hcc] at hs; simp [slenS] at hs

/-- a component of a result of several values -/
def extS (d : Nat) (x : A) (i : Nat) (σ : St) : Option St := match x with
  | .val (.tup vs) => match vs[i]? with
    | some v => some (puts d (.val v) σ)
    | none => none
  | .ref r p => match nodeAt σ r p with
    | some (.tup vs) => match vs[i]? with
      | some v => some (puts d (celA r p i v) σ)
      | none => none
    | _ => none
  | _ => none

theorem anyOwn_get {xs : List V} {i : Nat} {v : V} (h : anyOwn xs = false) (hi : xs[i]? = some v) : v.hasOwn = false := by
  induction xs generalizing i with
  | nil => simp at hi
  | cons x r ih =>
    simp [anyOwn] at h
    cases i with
    | zero => simp at hi; subst hi; exact h.1
    | succ i => simp at hi; exact ih h.2 hi

/-- a child, looked at where it lies -/
theorem celA_rel {σ a w O gv N vals fp} (h : Ok σ a w O gv N vals fp) {r : Nat} {p : List Nat} {U u k : V} {c : Nat} {v : Value} (hL : look σ r = .val U) (hs : sub p U = some u)
    (hok : u.stepOk = true) (hk : u.kids[c]? = some k) (hv : valAt w p (vals r) = some v) : ∃ y, kidVal w v c = some y ∧ RelL w O (look σ) vals [celA r p c k] [y] := by
  obtain ⟨y, f1, f2, f3, _, hy, hru, _⟩ := ctx p (h.sim.own r U hL) hs
  rw [hv] at hy; cases hy
  obtain ⟨z, g1, g2, g3, _, hz, hval, _⟩ := step_inv hru hok hk
  refine ⟨z, hval w fun _ _ => rfl, ?_⟩
  unfold celA
  split
  · exact .ref hL (sub_snoc p hs hok hk) (valAt_snoc w p hv (hval w fun _ _ => rfl)) .nil
  · rename_i hn
    have hn : k.hasOwn = false := by simpa using hn
    have : g2 = [] := hz.noOwn (by simp [anyOwn, hn])
    subst this
    exact .val hn hz .nil

theorem ext_ok {P : Program} {o : Oper} {σ σ' a w O gv N vals fp} {d : Nat} {x x' i} (h : Ok σ a w O gv N vals fp) (ho : o.op = .extract x' i) (hd : o.dst = some d) (hN : d < N)
    (hx : fitsX N x x' = true) (hs : extS d (evalX σ x) i σ = some σ') : StepOk P o σ' a w O gv N fp := by
  have hr := evalX_rel h hx
  cases hcc : evalX σ x with
  | val v =>
    rw [hcc] at hs hr
    cases v with
    | tup vs =>
      simp only [extS] at hs
      split at hs
      case h_2 => cases hs
      rename_i u hu
      cases hs
      cases hr with
      | val hn hr _ =>
        obtain ⟨us, e, hus⟩ := rd_tup hr
        obtain ⟨l, r, vl, y, vr, fl, fu, fr, e1, e2, e3, _, hvl, _, hy, _⟩ := hus.at hu
        simp at e3
        obtain ⟨rfl, rfl, rfl⟩ := e3
        have hn' := anyOwn_get hn hu
        exact .rel h hd hN (.val hn' hy .nil) (by simp [execOp, ho, e, Instr.extract, e2, ← hvl])
    | _ => simp [extS] at hs
  | ref r p =>
    rw [hcc] at hs hr
    cases hr with
    | @ref _ _ U u v _ _ hL hsu hv _ =>
      simp only [extS, nodeAt, hL, hsu] at hs
      cases u with
      | tup vs =>
        simp only at hs
        split at hs
        case h_2 => cases hs
        rename_i k hk
        cases hs
        obtain ⟨y, hy, hrel⟩ := celA_rel h hL hsu rfl hk hv
        obtain ⟨z, f1, f2, f3, _, hz, hru, _⟩ := ctx p (h.sim.own r U hL) hsu
        rw [hv] at hz; cases hz
        obtain ⟨us, e, hus⟩ := rd_tup hru
        rw [e] at hy
        simp [kidVal] at hy
        have ev : a.eval x' = .tuple us.toArray := e
        exact .rel h hd hN hrel (by simp [execOp, ho, ev, Instr.extract, hy])
      | _ => simp at hs
  | _ => rw [hcc] at hs; simp [extS] at hs

end Go.Proofs.Ythcnmahjhahafaa.Ax
