/-
  Taking a value out of a state; the operations that touch no memory or only look into it.
-/
import Derived.Test.YthcnmahjhahafaaAxE
namespace Go.Proofs.Ythcnmahjhahafaa.Ax
open Go

theorem look_turnS {r : Nat} {U' : V} {n : Nat} : ∀ {σ : St} {U : V}, look σ r = .val U →
    look (turnS r U' n σ) = fun s => if s = r then .val U' else (look σ s).mapR (killG r n) := by
  intro σ
  induction σ with
  | nil => intro U h; simp [look] at h
  | cons e rest ih =>
    intro U h
    obtain ⟨k, a⟩ := e
    funext s
    simp only [turnS, look]
    by_cases hk : k = r
    · subst hk
      by_cases hs : s = k
      · subst hs; simp
      · rw [if_neg (Ne.symm hs), if_neg hs, if_neg (Ne.symm hs)]
        have key : ∀ σ : St, look (turnS k U' n σ) s = (look σ s).mapR (killG k n) := by
          intro σ
          induction σ with
          | nil => rfl
          | cons e r ih =>
            obtain ⟨j, b⟩ := e
            simp only [turnS, look]
            by_cases hj : j = s
            · subst hj; rw [if_pos rfl, if_pos rfl, if_neg hs]
            · rw [if_neg hj, if_neg hj]; exact ih
        exact key rest
    · simp only [look, if_neg hk] at h
      by_cases hs : k = s
      · subst hs; simp [hk]
      · rw [if_neg hs, if_neg hs, ih h]

/-- what is known of a value that is about to be taken -/
def Pre (w : World) (O : Nat → Prop) (vals : Nat → Value) : A → Value → Prop
  | .val x, v => RdL w O [x] [v] []
  | .ref r p, v => valAt w p (vals r) = some v
  | _, _ => False

theorem upF_self {α : Type} (f : Nat → α) (d : Nat) : upF f d (f d) = f := by
  funext s; simp only [upF]; split <;> simp [*]

theorem takeA_ok {σ a w O gv N vals fp x v U σ'} (h : Ok σ a w O gv N vals fp) (hp : Pre w O vals x v) (ht : takeA σ x = some (U, σ')) :
    ∃ fp' fpV, Ok σ' a w O gv N vals fp' ∧ RdL w O [U] [v] fpV ∧ fpV.Nodup ∧ (∀ b ∈ fpV, Sof fp b ∧ ¬ Sof fp' b) ∧ (∀ b, Sof fp' b → Sof fp b) := by
  cases x with
  | val y => simp [takeA] at ht; obtain ⟨rfl, rfl⟩ := ht; exact ⟨fp, [], h, RdL.up1 hp, by simp, by simp, fun _ => id⟩
  | ref r p =>
    cases p with
    | nil =>
      simp only [takeA] at ht
      split at ht
      case h_2 => cases ht
      rename_i T hL
      cases ht
      simp only [Pre, valAt, Option.some.injEq] at hp
      have h1 := h.sim.put_top r (vals r)
      rw [upF_self] at h1
      have e : look (puts r .top σ) = setF (look σ) r .top := by
        rw [look_puts]; funext s; simp only [upF, setF]; split <;> simp_all [A.mapR]
      rw [← e] at h1
      refine ⟨_, fp r, ⟨h1, h.lo, h.hi, h.sz, h.df⟩, by rw [← hp]; exact h.sim.own r U hL, h.sim.nd r, ?_, ?_⟩
      · intro b hb
        refine ⟨⟨r, hb⟩, ?_⟩
        rintro ⟨s, hs⟩
        simp only [upF] at hs
        split at hs
        · simp at hs
        · rename_i hne; exact hne (h.sim.dj s r b hs hb)
      · rintro b ⟨s, hs⟩
        simp only [upF] at hs
        split at hs
        · simp at hs
        · exact ⟨s, hs⟩
    | cons c p =>
      simp only [takeA] at ht
      split at ht
      case h_2 => cases ht
      rename_i T hL
      split at ht
      case h_2 => cases ht
      rename_i u hu
      split at ht
      case h_2 => cases ht
      rename_i T' hT'
      cases ht
      have hR := h.sim.own r T hL
      obtain ⟨x, fp1, fpu, fp2, e, hx, hru, hset⟩ := ctx (c :: p) hR hu
      simp only [Pre] at hp
      rw [hp] at hx; cases hx
      have hnd := h.sim.nd r
      rw [e] at hnd
      have hnd1 := List.nodup_append.1 hnd
      have hnd2 := List.nodup_append.1 hnd1.2.1
      have hold : ∀ b ∈ fp r, w.heap[b]? = w.heap[b]? ∧ O b := fun b hb => ⟨rfl, (h.sim.fpO r b hb).1⟩
      have hR' := hset w O T' .dead [] hT' (fun b hb => hold b (by rw [e]; simp at hb ⊢; rcases hb with h | h <;> simp [h])) (fun b hb _ => ⟨rfl, hb⟩) (.leaf (.dead _) .nil)
      simp only [List.nil_append] at hR'
      have hin : ∀ b, b ∈ fp1 ++ fp2 → b ∈ fp r := fun b hb => by rw [e]; simp at hb ⊢; rcases hb with h | h <;> simp [h]
      have h1 := h.sim.turn (w' := w) (O' := O) r (p.length + 1) T T' (fp1 ++ fp2) hL (fun b hb _ => ⟨rfl, hb⟩) (fun s _ b hb => ⟨rfl, (h.sim.fpO s b hb).1⟩) hR'
        (by
          refine List.nodup_append.2 ⟨hnd1.1, hnd2.2.1, ?_⟩
          intro a ha b hb; exact hnd1.2.2 a ha b (by simp [hb]))
        (fun b hb s hs hbs => hs (h.sim.dj s r b hbs (hin b hb)))
        (by
          intro q u' v' hlt hq hv
          obtain ⟨u2, h2, h3⟩ := sub_upd (c :: p) q hq hu hT' (by simp; omega) (by simp; omega)
          exact ⟨u2, h2, h3, hv⟩)
      rw [← look_turnS hL] at h1
      refine ⟨_, fpu, ⟨h1, h.lo, h.hi, h.sz, h.df⟩, hru, hnd2.1, ?_, ?_⟩
      · intro b hb
        have hbr : b ∈ fp r := by rw [e]; simp [hb]
        refine ⟨⟨r, hbr⟩, ?_⟩
        rintro ⟨s, hs⟩
        simp only [upF] at hs
        split at hs
        · rcases List.mem_append.1 hs with h' | h'
          · exact hnd1.2.2 b h' b (by simp [hb]) rfl
          · exact hnd2.2.2 b hb b h' rfl
        · rename_i hne; exact hne (h.sim.dj s r b hs hbr)
      · rintro b ⟨s, hs⟩
        simp only [upF] at hs
        split at hs
        · exact ⟨r, hin b hs⟩
        · exact ⟨s, hs⟩
  | _ => simp [takeA] at ht

def A.takable : A → Bool
  | .val _ => true
  | .ref _ _ => true
  | _ => false

theorem rel_pre {w O L vals x xs v vs} (h : RelL w O L vals (x :: xs) (v :: vs)) (hx : x.takable = true) : Pre w O vals x v ∧ RelL w O L vals xs vs := by
  cases h with
  | val _ hr t => exact ⟨hr, t⟩
  | ref _ _ hv t => exact ⟨hv, t⟩
  | _ => simp [A.takable] at hx

theorem takeA_kind {σ x r} (h : takeA σ x = some r) : x.takable = true := by
  cases x <;> simp [takeA] at h <;> rfl

theorem takeL_ok {a w O gv N vals L} : ∀ {as : List A} {σ vs fp Us σ'}, Ok σ a w O gv N vals fp → RelL w O L vals as vs → takeL σ as = some (Us, σ') →
    ∃ fp' fpV, Ok σ' a w O gv N vals fp' ∧ RdL w O Us vs fpV ∧ fpV.Nodup ∧ (∀ b ∈ fpV, Sof fp b ∧ ¬ Sof fp' b) ∧ (∀ b, Sof fp' b → Sof fp b) := by
  intro as
  induction as with
  | nil =>
    intro σ vs fp Us σ' h hr ht
    simp [takeL] at ht; obtain ⟨rfl, rfl⟩ := ht
    cases hr
    exact ⟨fp, [], h, .nil, by simp, by simp, fun _ => id⟩
  | cons x r ih =>
    intro σ vs fp Us σ' h hr ht
    simp only [takeL] at ht
    split at ht
    case h_2 => cases ht
    rename_i U σ1 h1
    split at ht
    case h_2 => cases ht
    rename_i Us' σ2 h2
    cases ht
    have hlen := hr.length
    match vs, hlen with
    | v :: vs, _ =>
      obtain ⟨hp, hr'⟩ := rel_pre hr (takeA_kind h1)
      obtain ⟨fp1, f1, o1, r1, n1, d1, s1⟩ := takeA_ok h hp h1
      obtain ⟨fp2, f2, o2, r2, n2, d2, s2⟩ := ih o1 hr' h2
      refine ⟨fp2, f1 ++ f2, o2, r1.append r2, ?_, ?_, fun b hb => s1 b (s2 b hb)⟩
      · refine List.nodup_append.2 ⟨n1, n2, ?_⟩
        rintro b hb c hc rfl
        exact (d1 b hb).2 (d2 b hc).1
      · intro b hb
        rcases List.mem_append.1 hb with hb | hb
        · exact ⟨(d1 b hb).1, fun hh => (d1 b hb).2 (s2 b hh)⟩
        · exact ⟨s1 b (d2 b hb).1, (d2 b hb).2⟩

theorem takeX_not {σ x} (hx : ∀ as, x ≠ .agg as) : takeX σ x = takeA σ x := by
  cases x <;> first | rfl | exact absurd rfl (hx _)

theorem takeX_ok {σ a w O gv N vals fp L x v U σ'} (h : Ok σ a w O gv N vals fp) (hr : RelL w O L vals [x] [v]) (ht : takeX σ x = some (U, σ')) :
    ∃ fp' fpV, Ok σ' a w O gv N vals fp' ∧ RdL w O [U] [v] fpV ∧ fpV.Nodup ∧ (∀ b ∈ fpV, Sof fp b ∧ ¬ Sof fp' b) ∧ (∀ b, Sof fp' b → Sof fp b) := by
  by_cases hx : ∃ as, x = .agg as
  · obtain ⟨as, rfl⟩ := hx
    simp only [takeX] at ht
    split at ht
    case h_2 => cases ht
    rename_i vs σ1 h1
    cases ht
    cases hr with
    | agg s t =>
      cases t
      obtain ⟨fp', fpV, a1, a2, a3, a4, a5⟩ := takeL_ok h s h1
      exact ⟨fp', fpV, a1, by simpa using RdL.grp (.agg _ _) a2 .nil, a3, a4, a5⟩
  · rw [takeX_not fun as e => hx ⟨as, e⟩] at ht
    exact takeA_ok h (rel_pre hr (takeA_kind ht)).1 ht

/-- an operation has run, and the state that was foretold is there -/
def StepOk (P : Program) (o : Oper) (σ' : St) (a : Act) (w : World) (O : Nat → Prop) (gv : Nat → Value) (N : Nat) (fp : Nat → List Nat) : Prop :=
  ∃ v w' O' vals' fp', ((execOp a.eval o).run P w = .ok (.value v) w' ∨ ((execOp a.eval o).run P w = .ok .skip w' ∧ v = undef)) ∧
    Ok σ' (a.put o.dst v) w' O' gv N vals' fp' ∧ Mv w O (Sof fp) w' O' (Sof fp')

theorem StepOk.rel {P : Program} {o : Oper} {σ a w O gv N vals fp} {d : Nat} {x v} (h : Ok σ a w O gv N vals fp) (hd : o.dst = some d) (hN : d < N) (hr : RelL w O (look σ) vals [x] [v])
    (hrun : (execOp a.eval o).run P w = .ok (.value v) w) : StepOk P o (puts d x σ) a w O gv N fp := by
  obtain ⟨fp', h1, h2⟩ := h.put_rel hN hr
  exact ⟨v, w, O, _, fp', .inl hrun, by rw [hd]; exact h1, (Mv.refl w O _).shrink h2⟩

theorem StepOk.own {P : Program} {o : Oper} {σ a w O gv N vals fp} {d : Nat} {x v} (h : Ok σ a w O gv N vals fp) (hd : o.dst = some d) (hN : d < N) (hr : RdL w O [x] [v] [])
    (hrun : (execOp a.eval o).run P w = .ok (.value v) w) : StepOk P o (puts d (.val x) σ) a w O gv N fp := by
  obtain ⟨fp', h1, h2⟩ := h.put_own hN hr (by simp) (by simp)
  exact ⟨v, w, O, _, fp', .inl hrun, by rw [hd]; exact h1, (Mv.refl w O _).shrink fun b hb => (h2 b hb).resolve_right (by simp)⟩

def upA : A → A
  | .val v => .val v.up
  | .top => .top
  | .ref r p => .ref r p
  | .addr r p c => .addr r p c
  | .fad cs => .fad cs
  | .agg as => .agg as
  | .clo f as => .clo f as

theorem StepOk.up {P : Program} {o : Oper} {σ a w O gv N vals fp} {d : Nat} {x v} (h : Ok σ a w O gv N vals fp) (hd : o.dst = some d) (hN : d < N) (hr : RelL w O (look σ) vals [x] [v])
    (hrun : (execOp a.eval o).run P w = .ok (.value v) w) : StepOk P o (puts d (upA x) σ) a w O gv N fp := by
  cases x with
  | val y =>
    cases hr with
    | val _ hr _ => exact .own h hd hN hr.up1 hrun
  | _ => exact .rel h hd hN hr hrun

theorem mov_ok {P : Program} {o : Oper} {σ a w O gv N vals fp} {d : Nat} {x x'} (h : Ok σ a w O gv N vals fp) (ho : o.op = .move x' ∨ o.op = .assign x') (hd : o.dst = some d) (hN : d < N)
    (hx : fitsX N x x' = true) : StepOk P o (puts d (upA (evalX σ x)) σ) a w O gv N fp :=
  .up h hd hN (evalX_rel h hx) (by rcases ho with ho | ho <;> simp [execOp, ho])

/-- what slot s owns goes to d -/
def mapH (s d : Nat) : St → St
  | [] => []
  | (k, a) :: r => (k, if k = s then .ref d [] else a.mapR (renG s d)) :: mapH s d r

def handS (s d : Nat) (U : V) (σ : St) : St := (d, .val U) :: mapH s d (erase d σ)

theorem look_mapH {s d t : Nat} (hts : t ≠ s) : ∀ σ : St, look (mapH s d σ) t = (look σ t).mapR (renG s d) := by
  intro σ
  induction σ with
  | nil => rfl
  | cons e r ih =>
    obtain ⟨k, a⟩ := e
    simp only [mapH, look]
    by_cases hk : k = t
    · subst hk; rw [if_pos rfl, if_pos rfl, if_neg hts]
    · rw [if_neg hk, if_neg hk]; exact ih

theorem look_mapH_self {s d : Nat} : ∀ {σ : St} {U}, look σ s = .val U → look (mapH s d σ) s = .ref d [] := by
  intro σ
  induction σ with
  | nil => intro U h; simp [look] at h
  | cons e r ih =>
    intro U h
    obtain ⟨k, a⟩ := e
    simp only [mapH, look] at h ⊢
    by_cases hk : k = s
    · subst hk; simp
    · rw [if_neg hk] at h ⊢; exact ih h

theorem look_handS {s d : Nat} {U : V} {σ : St} (hsd : s ≠ d) (hs : look σ s = .val U) :
    look (handS s d U σ) = fun t => if t = d then .val U else if t = s then .ref d [] else (look σ t).mapR (renG s d) := by
  funext t
  simp only [handS, look]
  by_cases ht : t = d
  · subst ht; simp
  · rw [if_neg (Ne.symm ht), if_neg ht]
    by_cases hts : t = s
    · subst hts
      rw [if_pos rfl]
      exact look_mapH_self (by rw [look_erase, if_neg hsd]; exact hs)
    · rw [if_neg hts, look_mapH hts, look_erase, if_neg ht]

/-- several results of one call -/
def isTup : A → Bool
  | .val (.tup _) => true
  | _ => false

def asgS (d : Nat) (x : A) (σ : St) : Option St := match x with
  | .ref s [] => if s = d then none else (match look σ s with
    | .val U => some (handS s d U (puts d .top σ))
    | _ => none)
  | .ref s [i] => match isTup (look σ s) with
    | true => (match takeA σ (.ref s [i]) with
      | some (U, σ1) => some (puts d (.val U) σ1)
      | none => none)
    | false => some (puts d (.ref s [i]) σ)
  | x => some (puts d (upA x) σ)

theorem look_puts_top (d : Nat) (σ : St) : look (puts d .top σ) = setF (look σ) d .top := by
  rw [look_puts]; funext s; simp only [upF, setF]; split <;> simp_all [A.mapR]

theorem asg_ok {P : Program} {o : Oper} {σ σ' a w O gv N vals fp} {d : Nat} {x x'} (h : Ok σ a w O gv N vals fp) (ho : o.op = .move x' ∨ o.op = .assign x') (hd : o.dst = some d) (hN : d < N)
    (hx : fitsX N x x' = true) (hs : asgS d (evalX σ x) σ = some σ') : StepOk P o σ' a w O gv N fp := by
  have hr := evalX_rel h hx
  have hrun : (execOp a.eval o).run P w = .ok (.value (a.eval x')) w := by rcases ho with ho | ho <;> simp [execOp, ho]
  have gen : ∀ y, evalX σ x = y → StepOk P o (puts d (upA y) σ) a w O gv N fp := fun y hy => .up h hd hN (hy ▸ hr) hrun
  cases hy : evalX σ x with
  | ref s p =>
    cases p with
    | nil =>
      rw [hy] at hs hr
      simp only [asgS] at hs
      split at hs
      · cases hs
      · rename_i hsd
        split at hs
        case h_2 => cases hs
        rename_i U hL
        cases hs
        have hv : vals s = a.eval x' := by
          cases hr with
          | ref _ _ hv _ => simpa [valAt] using hv
        have h1 := h.sim.put_top d (a.eval x')
        have hLs : setF (look σ) d .top s = .val U := by simp [setF, hsd, hL, A.mapR]
        have h2 := h1.hand s d U hsd hLs (by simp [setF]) (by simp [upF, hsd, hv])
        rw [← look_puts_top] at h2 hLs
        rw [← look_handS hsd hLs] at h2
        refine ⟨a.eval x', w, O, upF vals d (a.eval x'), upF (upF (upF fp d []) s []) d (upF fp d [] s), .inl hrun, ?_, (Mv.refl w O _).shrink ?_⟩
        · rw [hd]
          refine ⟨h2, vals_put hN h.sz h.lo, ?_, by simp [Act.put_some, h.sz], h.df⟩
          intro t ht; simp only [upF]; rw [if_neg (by omega)]; exact h.hi t ht
        · rintro b ⟨t, ht⟩
          simp only [upF] at ht
          split at ht
          · exact ⟨s, by simpa [hsd] using ht⟩
          · split at ht
            · simp at ht
            · exact ⟨t, ht⟩
    | cons c p =>
      rw [hy] at hs hr
      cases p with
      | nil =>
        simp only [asgS] at hs
        split at hs
        · split at hs
          case h_2 => cases hs
          rename_i U σ1 hU
          cases hs
          obtain ⟨fp1, fpV, o1, rV, nV, dV, s1⟩ := takeA_ok h (rel_pre hr rfl).1 hU
          obtain ⟨fp2, o2, s2⟩ := o1.put_own hN rV nV (fun b hb => (dV b hb).2)
          refine ⟨a.eval x', w, O, _, fp2, .inl hrun, by rw [hd]; exact o2, (Mv.refl w O _).shrink fun b hb => ?_⟩
          rcases s2 b hb with h3 | h3
          · exact s1 b h3
          · exact (dV b h3).1
        · cases hs; exact gen _ hy
      | cons c2 p => simp [asgS] at hs; subst hs; exact gen _ hy
  | _ => rw [hy] at hs; simp [asgS] at hs; subst hs; exact gen _ hy

end Go.Proofs.Ythcnmahjhahafaa.Ax
