/-
  Calls by contract; lists of operations.
-/
import Derived.Test.YthcnmahjhahafaaAxN
import Derived.Tactics
import Derived.Conc.MuLone
namespace Go.Proofs.Ythcnmahjhahafaa.Ax
open Go

mutual
/-- no frozen memory in it -/
def V.noFz : V → Bool
  | .sl o _ xs => (o && noFzL xs) || xs.isEmpty
  | .ptr o x => o && x.noFz
  | .agg cs => noFzL cs
  | .tup cs => noFzL cs
  | .clo _ cs => noFzL cs
  | .fclo _ _ => false
  | .int _ _ => true
  | .bool _ => true
  | .str _ => true
  | .nilp => true
  | .nilsl _ => true
  | .dead => true
def noFzL : List V → Bool
  | [] => true
  | v :: r => v.noFz && noFzL r
end

theorem noFzL_append (xs ys : List V) : noFzL (xs ++ ys) = (noFzL xs && noFzL ys) := by
  induction xs with
  | nil => simp [noFzL]
  | cons x r ih => simp [noFzL, ih, Bool.and_assoc]

theorem noFz_cells {x : V} (h : x.noFz = true) : noFzL x.cells = true := by
  cases x <;> simp [V.cells, noFzL] <;> first | exact h | (simpa [V.noFz] using h)

theorem noFzL_flat {xs : List V} (h : noFzL xs = true) : noFzL (flat xs) = true := by
  induction xs with
  | nil => rfl
  | cons x r ih =>
    simp [noFzL] at h
    simp only [flat, noFzL_append, noFz_cells h.1, ih h.2, Bool.and_self]

theorem RdL.retag {w : World} {O O' : Nat → Prop} {xs vs fp} (h : RdL w O xs vs fp) (hn : noFzL xs = true) (hO : ∀ b ∈ fp, O' b) : RdL w O' xs vs fp := by
  induction h with
  | nil => exact .nil
  | leaf h _ ih => simp [noFzL] at hn; exact .leaf h (ih hn.2 hO)
  | grp h _ _ ih1 ih2 =>
    simp [noFzL] at hn
    refine .grp h (ih1 ?_ fun b hb => hO b (by simp [hb])) (ih2 hn.2 fun b hb => hO b (by simp [hb]))
    cases h <;> simpa [V.noFz] using hn.1
  | @fblk x v b off k ch vch xs vs fp h hc hO' s t ih1 ih2 =>
    simp [noFzL] at hn
    cases h with
    | sl _ m ys _ _ cap hm hcap =>
      have : ys = [] := by simpa [V.noFz] using hn.1
      subst this
      have hv : vch = [] := by have := s.length; simpa [flat] using this
      subst hv
      exact .fblk (.sl false m [] b off cap hm hcap) hc ⟨.inl rfl, rfl⟩ (by simpa [flat] using .nil) (ih2 hn.2 hO)
    | ptr => simp [V.noFz] at hn
  | @oblk x v b k ch arr e fp1 xs vs fp2 h hb hO' hk s t ih1 ih2 =>
    simp [noFzL] at hn
    refine .oblk h hb (hO b (by simp)) hk (ih1 ?_ fun c hc => hO c (by simp [hc])) (ih2 hn.2 fun c hc => hO c (by simp [hc]))
    cases h with
    | sl _ m ys _ _ cap hm hcap =>
      have := hn.1
      simp [V.noFz] at this
      rcases this with h | h
      · exact noFzL_flat h
      · subst h; rfl
    | ptr _ y _ _ => exact noFz_cells (by simpa [V.noFz] using hn.1)

mutual
/-- a value as it is handed on for reading -/
def resA (σ : St) : A → Option V
  | .val v => some v.fz
  | .ref r p => (nodeAt σ r p).map V.fz
  | .agg as => (resL σ as).map .agg
  | .clo f as => (resL σ as).map (.fclo f)
  | .top => none
  | .addr _ _ _ => none
  | .fad _ => none
def resL (σ : St) : List A → Option (List V)
  | [] => some []
  | a :: r => match resA σ a, resL σ r with
    | some v, some vs => some (v :: vs)
    | _, _ => none
end

mutual
def A.roots : A → List Nat
  | .ref r _ => [r]
  | .addr r _ _ => [r]
  | .agg as => rootsL as
  | .clo _ as => rootsL as
  | .top => []
  | .val _ => []
  | .fad _ => []
def rootsL : List A → List Nat
  | [] => []
  | a :: r => a.roots ++ rootsL r
end

theorem resL_rd {σ a w O gv N vals fp} (h : Ok σ a w O gv N vals fp) {O2 : Nat → Prop} (h1 : ∀ b, ¬ O b → b < w.heap.size → ¬ O2 b) : ∀ {as vs Us}, RelL w O (look σ) vals as vs → resL σ as = some Us →
    (∀ r ∈ rootsL as, ∀ b ∈ fp r, ¬ O2 b) → RdL w O2 Us vs [] := by
  have step : ∀ {a r Us}, resL σ (a :: r) = some Us → ∃ u us, resA σ a = some u ∧ resL σ r = some us ∧ Us = u :: us := by
    intro a r Us hh
    simp only [resL] at hh
    split at hh
    · cases hh; exact ⟨_, _, by assumption, by assumption, rfl⟩
    · cases hh
  intro as vs Us hr
  induction hr generalizing Us with
  | nil => intro hs _; simp [resL] at hs; subst hs; exact .nil
  | top _ ih => intro hs _; obtain ⟨u, us, h2, _, _⟩ := step hs; simp [resA] at h2
  | @val x v as vs hn hr t ih =>
    intro hs hR
    obtain ⟨u, us, h2, h3, rfl⟩ := step hs
    simp [resA] at h2; subst h2
    have := hr.fz (O2 := O2) (by simp) h1
    simpa [fzL] using this.append (ih h3 fun r hr => hR r (by simp [rootsL, hr]))
  | @ref r p T u v as vs hL hsu hv t ih =>
    intro hs hR
    obtain ⟨u', us, h2, h3, rfl⟩ := step hs
    simp [resA, nodeAt, hL, hsu] at h2; subst h2
    obtain ⟨z, f1, fu, f2, e, hz, hru, _⟩ := ctx p (h.sim.own r T hL) hsu
    rw [hv] at hz; cases hz
    have := hru.fz (O2 := O2) (fun b hb => hR r (by simp [rootsL, A.roots]) b (by rw [e]; simp [hb])) h1
    simpa [fzL] using this.append (ih h3 fun r hr => hR r (by simp [rootsL, hr]))
  | addr => intro hs _; obtain ⟨u, us, h2, _, _⟩ := step hs; simp [resA] at h2
  | fad => intro hs _; obtain ⟨u, us, h2, _, _⟩ := step hs; simp [resA] at h2
  | @agg bs us' as vs s t ih1 ih2 =>
    intro hs hR
    obtain ⟨u, us, h2, h3, rfl⟩ := step hs
    simp only [resA] at h2
    obtain ⟨ws, h4, rfl⟩ := Option.map_eq_some_iff.1 h2
    exact .grp (fp1 := []) (fp2 := []) (.agg _ _) (ih1 h4 fun r hr => hR r (by simp [rootsL, A.roots, hr])) (ih2 h3 fun r hr => hR r (by simp [rootsL, hr]))
  | @clo f bs us' as vs s t ih1 ih2 =>
    intro hs hR
    obtain ⟨u, us, h2, h3, rfl⟩ := step hs
    simp only [resA] at h2
    obtain ⟨ws, h4, rfl⟩ := Option.map_eq_some_iff.1 h2
    exact .grp (fp1 := []) (fp2 := []) (.fclo _ _ _ _ rfl) ((ih1 h4 fun r hr => hR r (by simp [rootsL, A.roots, hr])).fz (by simp) (fun _ hb _ => hb)) (ih2 h3 fun r hr => hR r (by simp [rootsL, hr]))

/-- a part that is lent to a callee, which may write it -/
def lentA (σ : St) : A → Option (Nat × List Nat × V)
  | .ref r p => match nodeAt σ r p with
    | some u => if u.node then some (r, p, u) else none
    | none => none
  | _ => none

/-- the arguments: their data; what is lent (its place among the arguments, its way); what is only read -/
def argsL (σ : St) : List (A × Bool) → Nat → Option (List V × List (Nat × Nat × List Nat) × List Nat)
  | [], _ => some ([], [], [])
  | (a, io) :: rest, k => match argsL σ rest (k + 1) with
    | none => none
    | some (vs, ls, rs) => match (if io then lentA σ a else none) with
      | some (r, p, u) => some (u :: vs, (k, r, p) :: ls, rs)
      | none => match resA σ a with
        | some v => some (v :: vs, ls, a.roots ++ rs)
        | none => none

def Tri (P : Program) (f : Nat) (args : List V) (R : V → List V → Prop) : Prop :=
  ∀ (w : World) (O : Nat → Prop) (vals : List Value) (fp : List Nat), RdL w O args vals fp → fp.Nodup →
    (∃ fn c, P.funcs[f]? = some fn ∧ (fn.name == "runtime.NumGoroutine") = false ∧ fn.body = some c) ∧
    Calls P f vals.toArray w fun e w' => ∃ res outs rv O' fpr fpo, R res outs ∧ e = .returned rv ∧ RdL w' O' [res] [rv] fpr ∧ RdL w' O' outs vals fpo ∧ (fpr ++ fpo).Nodup ∧
      Mv w O (· ∈ fp) w' O' (· ∈ fpr ++ fpo)

theorem Tri.mono {P f args} {R R' : V → List V → Prop} (h : Tri P f args R) (hr : ∀ r o, R r o → R' r o) : Tri P f args R' := by
  intro w O vals fp h1 h2
  obtain ⟨h3, h4⟩ := h w O vals fp h1 h2
  refine ⟨h3, h4.mono ?_⟩
  rintro e w' ⟨res, outs, rv, O', fpr, fpo, hR, rest⟩
  exact ⟨res, outs, rv, O', fpr, fpo, hr _ _ hR, rest⟩

def resOk (rs : List Nat) (v : V) : Bool := rs.isEmpty || v.noFz

/-- behind a call: the result in its slot, the lent part put back -/
def afterCall (d : Nat) (ls : List (Nat × Nat × List Nat)) (rs : List Nat) (K : St → Prop) (σ : St) (res : V) (outs : List V) : Prop :=
  match ls with
  | [] => resOk rs res = true ∧ K (puts d (.val res) σ)
  | [(k, r, p)] => resOk rs res = true ∧ (match outs[k]?, look σ r with
    | some out, .val T => resOk rs out = true ∧ out.node = true ∧ (match upd p T out with
      | some T' => K (puts d (.val res) (turnS r T' (p.length + 1) σ))
      | none => False)
    | _, _ => False)
  | _ => False

def okRoots (ls : List (Nat × Nat × List Nat)) (rs : List Nat) : Bool := match ls with
  | [] => true
  | [(_, r, _)] => !rs.contains r
  | _ => false

/-- arguments that are numbers and the like -/
def plainArgs : List (A × Bool) → Option (List V)
  | [] => some []
  | (.val v, _) :: r => match plainArgs r with
    | some vs => some (v.fz :: vs)
    | none => none
  | _ :: _ => none
/-- the first argument is a group that is given away -/
def givenOf : List (A × Bool) → Option (List A × List (A × Bool))
  | (.agg bs, io) :: rest => if io then some (bs, rest) else none
  | _ => none
def awpCall (P : Program) (f d : Nat) (as : List (A × Bool)) (K : St → Prop) (σ : St) : Prop :=
  match givenOf as with
  | some (bs, rest) => (match takeX σ (.agg bs), plainArgs rest with
    | some (U, σ1), some vs => Tri P f (U :: vs) (fun res _ => K (puts d (.val res) σ1))
    | _, _ => False)
  | none => match argsL σ as 0 with
    | some (vs, ls, rs) => okRoots ls rs = true ∧ Tri P f vs (afterCall d ls rs K σ)
    | none => False

theorem plainArgs_rd {w O O2 L vals} (h1 : ∀ b, ¬ O b → b < w.heap.size → ¬ O2 b) : ∀ {as : List (A × Bool)} {us Vs}, RelL w O L vals (as.map (·.1)) us → plainArgs as = some Vs → RdL w O2 Vs us [] := by
  intro as
  induction as with
  | nil => intro us Vs hr ha; simp [plainArgs] at ha; subst ha; cases hr; exact .nil
  | cons x rest ih =>
    intro us Vs hr ha
    obtain ⟨x, io⟩ := x
    cases x with
    | val v =>
      simp only [plainArgs] at ha
      split at ha
      case h_2 => cases ha
      rename_i vs hvs
      cases ha
      cases hr with
      | val _ hr t => simpa [fzL] using (RdL.fz (O2 := O2) hr (by simp) h1).append (ih t hvs)
    | _ => simp [plainArgs] at ha

theorem argsL_plain {σ a w O gv N vals fp} (h : Ok σ a w O gv N vals fp) {O2 : Nat → Prop} (h1 : ∀ b, ¬ O b → b < w.heap.size → ¬ O2 b) : ∀ {as : List (A × Bool)} {k us Vs rs},
    RelL w O (look σ) vals (as.map (·.1)) us → argsL σ as k = some (Vs, [], rs) → (∀ r ∈ rs, ∀ b ∈ fp r, ¬ O2 b) → RdL w O2 Vs us [] := by
  intro as
  induction as with
  | nil => intro k us Vs rs hr ha _; simp [argsL] at ha; obtain ⟨rfl, _⟩ := ha; cases hr; exact .nil
  | cons x rest ih =>
    intro k us Vs rs hr ha hR
    obtain ⟨x, io⟩ := x
    have hl := hr.length
    match us, hl with
    | u :: us, _ =>
      obtain ⟨hr1, hr2⟩ := hr.uncons
      simp only [argsL] at ha
      split at ha
      · cases ha
      · rename_i vs ls rs' hrest
        split at ha
        · cases ha
        · split at ha
          · rename_i v hv
            cases ha
            have h2 := resL_rd h (O2 := O2) h1 hr1 (Us := [v]) (by simp [resL, hv]) (by intro r hr'; exact hR r (by simp [rootsL] at hr'; simp [hr']))
            simpa using h2.append (ih hr2 hrest fun r hr' => hR r (by simp [hr']))
          · cases ha

theorem argsL_lent {σ a w O gv N vals fp} (h : Ok σ a w O gv N vals fp) : ∀ {as : List (A × Bool)} {k us Vs j r p rs},
    RelL w O (look σ) vals (as.map (·.1)) us → argsL σ as k = some (Vs, [(j, r, p)], rs) →
    ∃ T u x l m vl vr, k ≤ j ∧ look σ r = .val T ∧ sub p T = some u ∧ u.node = true ∧ valAt w p (vals r) = some x ∧ Vs = l ++ u :: m ∧ us = vl ++ x :: vr ∧ l.length = j - k ∧ vl.length = j - k ∧
      ∀ O2 : Nat → Prop, (∀ b, ¬ O b → b < w.heap.size → ¬ O2 b) → (∀ r ∈ rs, ∀ b ∈ fp r, ¬ O2 b) → RdL w O2 l vl [] ∧ RdL w O2 m vr [] := by
  intro as
  induction as with
  | nil => intro k us Vs j r p rs hr ha; simp [argsL] at ha
  | cons x rest ih =>
    intro k us Vs j r p rs hr ha
    obtain ⟨x, io⟩ := x
    have hl := hr.length
    match us, hl with
    | u :: us, _ =>
      obtain ⟨hr1, hr2⟩ := hr.uncons
      simp only [argsL] at ha
      split at ha
      · cases ha
      · rename_i vs ls rs' hrest
        split at ha
        · rename_i r' p' u' hlent
          cases ha
          split at hlent
          · unfold lentA at hlent
            split at hlent
            · rename_i r2 p2
              split at hlent
              · rename_i u2 hnode
                split at hlent
                · rename_i hn
                  cases hlent
                  cases hr1 with
                  | @ref _ _ T u3 _ _ _ hL hs hv _ =>
                    simp only [nodeAt, hL, hs, Option.some.injEq] at hnode
                    subst hnode
                    refine ⟨T, u3, u, [], _, [], us, Nat.le_refl _, hL, hs, hn, hv, rfl, rfl, by simp, by simp, ?_⟩
                    intro O2 h1 hR
                    exact ⟨.nil, argsL_plain h h1 hr2 hrest hR⟩
                · cases hlent
              · cases hlent
            · cases hlent
          · cases hlent
        · split at ha
          · rename_i v hv
            cases ha
            obtain ⟨T, u0, x0, l, m, vl, vr, hkj, hT, hs, hn, hva, e1, e2, l1, l2, hrd⟩ := ih hr2 hrest
            refine ⟨T, u0, x0, v :: l, m, u :: vl, vr, by omega, hT, hs, hn, hva, by simp [e1], by simp [e2], by simp [l1]; omega, by simp [l2]; omega, ?_⟩
            intro O2 h1 hR
            obtain ⟨q1, q2⟩ := hrd O2 h1 fun r hr' => hR r (by simp [hr'])
            have h2 := resL_rd h (O2 := O2) h1 hr1 (Us := [v]) (by simp [resL, hv]) (by intro r hr'; exact hR r (by simp [rootsL] at hr'; simp [hr']))
            exact ⟨by simpa using h2.append q1, q2⟩
          · cases ha

/-- what a step leaves for what comes behind it -/
def Next1 (w : World) (O : Nat → Prop) (gv : Nat → Value) (N : Nat) (fp : Nat → List Nat) (K : St → Prop) (next : Act → World → Prop) : Prop :=
  ∀ σ' a' w' O' vals' fp', K σ' → Ok σ' a' w' O' gv N vals' fp' → Mv w O (Sof fp) w' O' (Sof fp') → next a' w'

theorem upon_step {P : Program} {o : Oper} {σ' a w O gv N fp next Q} {K : St → Prop} (h : StepOk P o σ' a w O gv N fp) (hk : K σ') (hn : Next1 w O gv N fp K next) : o.wp P a w next Q := by
  obtain ⟨v, w', O', vals', fp', hrun, ho, hm⟩ := h
  unfold Oper.wp
  rcases hrun with hrun | ⟨hrun, rfl⟩
  · rw [hrun]; exact hn σ' _ _ _ _ _ hk ho hm
  · rw [hrun]; exact hn σ' _ _ _ _ _ hk ho hm

/-- a call, once it is known what it enters -/
theorem call_sound {P : Program} {o : Oper} {σ a w O gv N vals fp} {f d : Nat} {as : List (A × Bool)} {us : List Value} {K : St → Prop} {next Q} (h : Ok σ a w O gv N vals fp) (hd : o.dst = some d) (hN : d < N)
    (hr : RelL w O (look σ) vals (as.map (·.1)) us) (ha : awpCall P f d as K σ) (hn : Next1 w O gv N fp K next)
    (hrun : (∃ fn c, P.funcs[f]? = some fn ∧ (fn.name == "runtime.NumGoroutine") = false ∧ fn.body = some c) → (execOp a.eval o).run P w = .ok (.enter f us.toArray) w) : o.wp P a w next Q := by
  unfold awpCall at ha
  split at ha
  · -- something is given away
    rename_i bs rest hg
    have eas : as = (.agg bs, true) :: rest := by
      unfold givenOf at hg
      split at hg
      · split at hg
        · rename_i hio; cases hg; rw [hio]
        · cases hg
      · cases hg
    subst eas
    split at ha
    case h_2 => exact ha.elim
    rename_i U σ1 vs hU hvs
    match us, hr.length with
    | u0 :: us, _ =>
    have hr' : RelL w O (look σ) vals (.agg bs :: rest.map (·.1)) (u0 :: us) := hr
    obtain ⟨hr1, hr2⟩ := hr'.uncons
    obtain ⟨fp1, fpV, o1, rV, nV, dV, s1⟩ := takeX_ok h hr1 hU
    have rrest := plainArgs_rd (O2 := O) (fun b hb _ => hb) hr2 hvs
    have rall : RdL w O (U :: vs) (u0 :: us) fpV := by simpa using rV.cons_join rrest
    obtain ⟨hfn, hcall⟩ := ha w O (u0 :: us) fpV rall nV
    unfold Oper.wp
    rw [hrun hfn]
    refine hcall.mono ?_
    rintro e w' ⟨res, outs, rv, O', fpr, fpo, hK, rfl, r1, _, hnd, hm⟩
    have hVO : ∀ b ∈ fpV, O b ∧ b < w.heap.size := rV.fpO
    have hst : Still w O w' O' := fun b hb hlt => by
      have hbv : b ∉ fpV := fun hh => hb (hVO b hh).1
      have := hm.same b hlt hbv
      exact ⟨this.1, fun hh => hb (this.2.1 hh)⟩
    have o2 : Ok σ1 a w' O' gv N vals fp1 := o1.world hst fun b hb => by
      have hbv : b ∉ fpV := fun hh => (dV b hh).2 hb
      obtain ⟨s, hs⟩ := hb
      obtain ⟨hO, hlt⟩ := o1.sim.fpO s b hs
      have := hm.same b hlt hbv
      exact ⟨this.1, this.2.2 hO⟩
    have hnew : ∀ b ∈ fpr, b ∈ fpV ∨ w.heap.size ≤ b := fun b hb => hm.new b (by simp [hb])
    obtain ⟨fp', o3, s3⟩ := o2.put_own hN r1 (List.nodup_append.1 hnd).1 (fun b hb hh => by
      rcases hnew b hb with h1 | h1
      · exact (dV b h1).2 hh
      · obtain ⟨s, hs⟩ := hh
        have := (o1.sim.fpO s b hs).2; omega)
    refine hn _ _ _ _ _ _ hK (by rw [hd]; exact o3) ⟨hm.os, hm.tape, hm.output, hm.size, fun b hb hS => ?_, fun b hb => ?_⟩
    · exact hm.same b hb fun hh => hS (dV b hh).1
    · rcases s3 b hb with h1 | h1
      · exact .inl (s1 b h1)
      · rcases hnew b h1 with h2 | h2
        · exact .inl (dV b h2).1
        · exact .inr h2
  split at ha
  case h_2 => exact ha.elim
  rename_i Vs ls rs hargs
  obtain ⟨hroots, htri⟩ := ha
  unfold Oper.wp
  match ls, hroots, htri, hargs with
  | [], _, htri, hargs =>
    -- nothing is lent
    by_cases hrs : rs = []
    · subst hrs
      have hrd := argsL_plain h (O2 := O) (fun b hb _ => hb) hr hargs (by simp)
      obtain ⟨hfn, hcall⟩ := htri w O us [] hrd (by simp)
      rw [hrun hfn]
      refine hcall.mono ?_
      rintro e w' ⟨res, outs, rv, O', fpr, fpo, hR, rfl, r1, _, hnd, hm⟩
      obtain ⟨_, hK⟩ := hR
      have hst : Still w O w' O' := fun b hb hlt => by have := hm.same b hlt (by simp); exact ⟨this.1, fun hh => hb (this.2.1 hh)⟩
      have o1 : Ok σ a w' O' gv N vals fp := h.world hst fun b ⟨s, hs⟩ => by
        obtain ⟨hO, hlt⟩ := h.sim.fpO s b hs
        have := hm.same b hlt (by simp); exact ⟨this.1, this.2.2 hO⟩
      have hnew : ∀ b ∈ fpr, w.heap.size ≤ b := fun b hb => (hm.new b (by simp [hb])).elim (by simp) id
      obtain ⟨fp', o2, s2⟩ := o1.put_own hN r1 (List.nodup_append.1 hnd).1 (fun b hb ⟨s, hs⟩ => by have := (h.sim.fpO s b hs).2; have := hnew b hb; omega)
      refine hn _ _ _ _ _ _ hK (by rw [hd]; exact o2) ⟨hm.os, hm.tape, hm.output, hm.size, fun b hb _ => hm.same b hb (by simp), fun b hb => ?_⟩
      rcases s2 b hb with h1 | h1
      · exact .inl h1
      · exact .inr (hnew b h1)
    · have hrd := argsL_plain h (O2 := fun _ => False) (fun _ _ _ => id) hr hargs (fun _ _ _ _ => id)
      obtain ⟨hfn, hcall⟩ := htri w (fun _ => False) us [] hrd (by simp)
      rw [hrun hfn]
      refine hcall.mono ?_
      rintro e w' ⟨res, outs, rv, O', fpr, fpo, hR, rfl, r1, _, hnd, hm⟩
      obtain ⟨hok, hK⟩ := hR
      have hnf : res.noFz = true := by simpa [resOk, hrs] using hok
      have hnew : ∀ b ∈ fpr, w.heap.size ≤ b := fun b hb => (hm.new b (by simp [hb])).elim (by simp) id
      let O2 : Nat → Prop := fun b => if b < w.heap.size then O b else b ∈ fpr
      have hO2 : ∀ b, b < w.heap.size → (O2 b ↔ O b) := fun b hb => by simp [O2, hb]
      have hst : Still w O w' O2 := fun b hb hlt => ⟨(hm.same b hlt (by simp)).1, fun hh => hb ((hO2 b hlt).1 hh)⟩
      have o1 : Ok σ a w' O2 gv N vals fp := h.world hst fun b ⟨s, hs⟩ => by
        obtain ⟨hO, hlt⟩ := h.sim.fpO s b hs
        exact ⟨(hm.same b hlt (by simp)).1, (hO2 b hlt).2 hO⟩
      have r2 : RdL w' O2 [res] [rv] fpr := r1.retag (by simp [noFzL, hnf]) fun b hb => by simp only [O2]; rw [if_neg (by have := hnew b hb; omega)]; exact hb
      obtain ⟨fp', o2, s2⟩ := o1.put_own hN r2 (List.nodup_append.1 hnd).1 (fun b hb ⟨s, hs⟩ => by have := (h.sim.fpO s b hs).2; have := hnew b hb; omega)
      refine hn _ _ _ _ _ _ hK (by rw [hd]; exact o2) ⟨hm.os, hm.tape, hm.output, hm.size, fun b hb _ => ⟨(hm.same b hb (by simp)).1, hO2 b hb⟩, fun b hb => ?_⟩
      rcases s2 b hb with h1 | h1
      · exact .inl h1
      · exact .inr (hnew b h1)
  | [(j, r, p)], hroots, htri, hargs =>
    have hroot : r ∉ rs := by simpa [okRoots] using hroots
    obtain ⟨T, u, x, l, m, vl, vr, _, hT, hsu, hnode, hva, eV, eu, hl, hvl, hrd⟩ := argsL_lent h hr hargs
    have hR := h.sim.own r T hT
    obtain ⟨z, f1, fu, f2, efp, hz, hru, hset⟩ := ctx p hR hsu
    rw [hva] at hz; cases hz
    have hfuO : ∀ b ∈ fu, O b ∧ b < w.heap.size := hru.fpO
    have hfur : ∀ b ∈ fu, b ∈ fp r := fun b hb => by rw [efp]; simp [hb]
    have hndr := h.sim.nd r
    rw [efp] at hndr
    have nd1 := List.nodup_append.1 hndr
    have nd2 := List.nodup_append.1 nd1.2.1
    have hrest : ∀ b, b ∈ f1 ++ f2 → b ∈ fp r ∧ b ∉ fu := by
      intro b hb
      refine ⟨by rw [efp]; simp at hb ⊢; rcases hb with h | h <;> simp [h], fun hbu => ?_⟩
      rcases List.mem_append.1 hb with h | h
      · exact nd1.2.2 b h b (by simp [hbu]) rfl
      · exact nd2.2.2 b hbu b h rfl
    -- what both ways have in common
    have key : ∀ (Oc : Nat → Prop), (∀ b, ¬ O b → b < w.heap.size → ¬ Oc b) → (∀ q ∈ rs, ∀ b ∈ fp q, ¬ Oc b) → (∀ b ∈ fu, Oc b) →
        (∀ (res : V) (outs : List V) (out : V) (w' : World) (O' : Nat → Prop) (rv : Value) (fpr fpo : List Nat), outs[j]? = some out → resOk rs res = true → resOk rs out = true →
          Mv w Oc (· ∈ fu) w' O' (· ∈ fpr ++ fpo) → RdL w' O' [res] [rv] fpr → RdL w' O' [out] [x] fpo →
          ∃ O2 : Nat → Prop, (∀ b, b < w.heap.size → b ∉ fu → (O2 b ↔ O b)) ∧ RdL w' O2 [res] [rv] fpr ∧ RdL w' O2 [out] [x] fpo) →
        o.upon P a next Q ((execOp a.eval o).run P w) := by
      intro Oc c1 c2 c3 c4
      obtain ⟨q1, q2⟩ := hrd Oc c1 c2
      have hru' : RdL w Oc [u] [x] fu := hru.frame (fun b hb => ⟨rfl, c3 b hb⟩) (fun b hb hlt => ⟨rfl, c1 b hb hlt⟩)
      have hargsR : RdL w Oc Vs us fu := by
        rw [eV, eu]
        have := q1.append (hru'.cons_join q2)
        simpa using this
      obtain ⟨hfn, hcall⟩ := htri w Oc us fu hargsR nd2.1
      rw [hrun hfn]
      refine hcall.mono ?_
      rintro e w' ⟨res, outs, rv, O', fpr, fpo, hRR, rfl, r1, ro, hnd, hm⟩
      simp only [afterCall, hT] at hRR
      obtain ⟨hokr, hRR⟩ := hRR
      split at hRR
      case h_2 => exact hRR.elim
      rename_i out T2 hout hT2
      cases hT2
      obtain ⟨hoko, hon, hRR⟩ := hRR
      split at hRR
      case h_2 => exact hRR.elim
      rename_i T' hT'
      obtain ⟨lo, ro', vlo, xo, vro, flo, fuo, fro, e1, e2, e3, hlo, hvlo, _, rout, _⟩ := ro.at hout
      have hxo : xo = x := by
        have h1 : us[j]? = some xo := by rw [e2]; subst hvlo; simp
        have hjv : vl.length = j := by omega
        have h2 : us[j]? = some x := by rw [eu]; subst hjv; simp
        rw [h1] at h2; cases h2; rfl
      subst hxo
      have hfuo : ∀ b ∈ fuo, b ∈ fpo := fun b hb => by rw [e3]; simp [hb]
      have hm' : Mv w Oc (· ∈ fu) w' O' (· ∈ fpr ++ fuo) := hm.shrink fun b hb => by
        rcases List.mem_append.1 hb with h | h
        · simp [h]
        · simp [hfuo b h]
      obtain ⟨O2, hO2, r2, ro2⟩ := c4 res outs out w' O' rv fpr fuo hout hokr hoko hm' r1 rout
      have hsame : ∀ b, b < w.heap.size → b ∉ fu → w'.heap[b]? = w.heap[b]? := fun b hb hbu => (hm.same b hb hbu).1
      have hst : Still w O w' O2 := fun b hb hlt => by
        have hbu : b ∉ fu := fun hh => hb (hfuO b hh).1
        exact ⟨hsame b hlt hbu, fun hh => hb ((hO2 b hlt hbu).1 hh)⟩
      have hnew : ∀ b, b ∈ fpr ∨ b ∈ fuo → b ∈ fu ∨ w.heap.size ≤ b := fun b hb => hm'.new b (by simpa using hb)
      have hndro := List.nodup_append.1 hnd
      have hndo : fuo.Nodup := by
        have := hndro.2.1; rw [e3] at this
        exact (List.nodup_append.1 (List.nodup_append.1 this).2.1).1
      have hdisj : ∀ b ∈ fpr, b ∉ fuo := fun b hb hb' => hndro.2.2 b hb b (hfuo b hb') rfl
      have hrest2 : ∀ b ∈ f1 ++ f2, w'.heap[b]? = w.heap[b]? ∧ O2 b := by
        intro b hb
        obtain ⟨hbr, hbu⟩ := hrest b hb
        obtain ⟨hO, hlt⟩ := h.sim.fpO r b hbr
        exact ⟨hsame b hlt hbu, (hO2 b hlt hbu).2 hO⟩
      have hRT := hset w' O2 T' out _ hT' hrest2 hst ro2
      have hnotold : ∀ b, b ∈ fpr ∨ b ∈ fuo → ∀ s, b ∈ fp s → b ∈ fu := by
        intro b hb s hs
        rcases hnew b hb with h1 | h1
        · exact h1
        · have := (h.sim.fpO s b hs).2; omega
      have hsim := h.sim.turn (w' := w') (O' := O2) r (p.length + 1) T T' (f1 ++ (fuo ++ f2)) hT hst (fun s hs b hb => by
          obtain ⟨hO, hlt⟩ := h.sim.fpO s b hb
          have hbu : b ∉ fu := fun hh => hs (h.sim.dj s r b hb (hfur b hh))
          exact ⟨hsame b hlt hbu, (hO2 b hlt hbu).2 hO⟩) hRT
        (by
          refine List.nodup_append.2 ⟨nd1.1, List.nodup_append.2 ⟨hndo, nd2.2.1, ?_⟩, ?_⟩
          · rintro b hb c hc rfl
            exact (hrest b (by simp [hc])).2 (hnotold b (.inr hb) r (hrest b (by simp [hc])).1)
          · rintro b hb c hc rfl
            rcases List.mem_append.1 hc with h1 | h1
            · exact (hrest b (by simp [hb])).2 (hnotold b (.inr h1) r (hrest b (by simp [hb])).1)
            · exact nd1.2.2 b hb b (by simp [h1]) rfl)
        (by
          intro b hb s hs hbs
          have : b ∈ fp r := by
            simp only [List.mem_append] at hb
            rcases hb with h1 | h1 | h1
            · exact (hrest b (by simp [h1])).1
            · exact hfur b (hnotold b (.inr h1) s hbs)
            · exact (hrest b (by simp [h1])).1
          exact hs (h.sim.dj s r b hbs this))
        (by
          intro q u2 v2 hlt hq hvq
          obtain ⟨u3, k1, k2⟩ := sub_upd p q hq hsu hT' (by omega) (fun _ _ => hon)
          refine ⟨u3, k1, k2, ?_⟩
          rw [valAt_node p q hR (h.sim.nd r) hsu hq (by omega) hva hru (fun b hb hbu => hsame b (h.sim.fpO r b hb).2 hbu)]
          exact hvq)
      rw [← look_turnS hT] at hsim
      have o1 : Ok (turnS r T' (p.length + 1) σ) a w' O2 gv N vals (upF fp r (f1 ++ (fuo ++ f2))) := ⟨hsim, h.lo, h.hi, h.sz, h.df⟩
      have hS1 : ∀ b, Sof (upF fp r (f1 ++ (fuo ++ f2))) b → Sof fp b ∨ b ∈ fuo := by
        rintro b ⟨s, hs⟩
        simp only [upF] at hs
        split at hs
        · simp only [List.mem_append] at hs
          rcases hs with h1 | h1 | h1
          · exact .inl ⟨r, (hrest b (by simp [h1])).1⟩
          · exact .inr h1
          · exact .inl ⟨r, (hrest b (by simp [h1])).1⟩
        · exact .inl ⟨s, hs⟩
      obtain ⟨fp', o2, s2⟩ := o1.put_own hN r2 hndro.1 (by
        rintro b hb ⟨s, hs⟩
        simp only [upF] at hs
        split at hs
        · simp only [List.mem_append] at hs
          rcases hs with h1 | h1 | h1
          · exact (hrest b (by simp [h1])).2 (hnotold b (.inl hb) r (hrest b (by simp [h1])).1)
          · exact hdisj b hb h1
          · exact (hrest b (by simp [h1])).2 (hnotold b (.inl hb) r (hrest b (by simp [h1])).1)
        · rename_i hne
          exact hne (h.sim.dj s r b hs (hfur b (hnotold b (.inl hb) s hs))))
      refine hn _ _ _ _ _ _ hRR (by rw [hd]; exact o2) ⟨hm.os, hm.tape, hm.output, hm.size, fun b hb hS => ?_, fun b hb => ?_⟩
      · have hbu : b ∉ fu := fun hh => hS ⟨r, hfur b hh⟩
        exact ⟨hsame b hb hbu, hO2 b hb hbu⟩
      · rcases s2 b hb with h1 | h1
        · rcases hS1 b h1 with h2 | h2
          · exact .inl h2
          · rcases hnew b (.inr h2) with h3 | h3
            · exact .inl ⟨r, hfur b h3⟩
            · exact .inr h3
        · rcases hnew b (.inl h1) with h3 | h3
          · exact .inl ⟨r, hfur b h3⟩
          · exact .inr h3
    by_cases hrs : rs = []
    · subst hrs
      refine key O (fun b hb _ => hb) (by simp) (fun b hb => (hfuO b hb).1) ?_
      intro res outs out w' O' rv fpr fpo _ _ _ hm r1 ro
      exact ⟨O', fun b hb hbu => (hm.same b hb hbu).2, r1, ro⟩
    · refine key (· ∈ fu) (fun b hb _ hbu => hb (hfuO b hbu).1) ?_ (fun b hb => hb) ?_
      · intro q hq b hb hbu
        have := h.sim.dj q r b hb (hfur b hbu)
        subst this; exact hroot hq
      · intro res outs out w' O' rv fpr fpo _ hokr hoko hm r1 ro
        have n1 : res.noFz = true := by simpa [resOk, hrs] using hokr
        have n2 : out.noFz = true := by simpa [resOk, hrs] using hoko
        refine ⟨fun b => if b < w.heap.size ∧ b ∉ fu then O b else (b ∈ fpr ∨ b ∈ fpo), fun b hb hbu => by simp [hb, hbu], ?_, ?_⟩
        · refine r1.retag (by simp [noFzL, n1]) fun b hb => ?_
          rw [if_neg]
          · exact .inl hb
          · rintro ⟨h1, h2⟩
            rcases hm.new b (by simp [hb]) with h3 | h3
            · exact h2 h3
            · omega
        · refine ro.retag (by simp [noFzL, n2]) fun b hb => ?_
          rw [if_neg]
          · exact .inr hb
          · rintro ⟨h1, h2⟩
            rcases hm.new b (by simp [hb]) with h3 | h3
            · exact h2 h3
            · omega
  | _ :: _ :: _, hroots, _, _ => simp [okRoots] at hroots

end Go.Proofs.Ythcnmahjhahafaa.Ax
