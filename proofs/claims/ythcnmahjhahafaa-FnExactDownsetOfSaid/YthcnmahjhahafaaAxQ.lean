/-
  A function: how it is entered, what it hands back; loops by rounds.
-/
import Derived.Test.YthcnmahjhahafaaAxU
namespace Go.Proofs.Ythcnmahjhahafaa.Ax
open Go

def entry (N : Nat) : Nat → List V → St
  | _, [] => []
  | i, v :: r => if v.hasOwn then (i, .ref (N + i) []) :: (N + i, .val v) :: entry N (i + 1) r else (i, .val v) :: entry N (i + 1) r

theorem entry_sim {w : World} {O : Nat → Prop} {vals : Nat → Value} {N : Nat} : ∀ {args : List V} {i : Nat} {us : List Value} {fp : List Nat}, RdL w O args us fp → fp.Nodup → i + args.length ≤ N →
    (∀ j u, us[j]? = some u → vals (i + j) = u ∧ vals (N + i + j) = u) →
    ∃ fpf, Sim w O (look (entry N i args)) vals fpf ∧ (∀ b, Sof fpf b → b ∈ fp) ∧ (∀ s, s < i → look (entry N i args) s = .top) ∧ (∀ s, N ≤ s → s < N + i → look (entry N i args) s = .top) := by
  intro args
  induction args with
  | nil =>
    intro i us fp h _ _ _
    refine ⟨fun _ => [], ⟨?_, fun _ _ => rfl, ?_, by simp, by simp⟩, ?_, fun _ _ => rfl, fun _ _ _ => rfl⟩
    · intro s V hL; simp [entry, look] at hL
    · intro s _; exact .top .nil
    · rintro b ⟨s, hs⟩; simp at hs
  | cons v r ih =>
    intro i us fp h hnd hN hv
    obtain ⟨u, us2, f1, f2, rfl, rfl, h1, h2⟩ := h.cons_split
    have nd := List.nodup_append.1 hnd
    simp at hN
    have hu := hv 0 u (by simp)
    simp at hu
    obtain ⟨fpf, hs, hsub, ht1, ht2⟩ := ih (i := i + 1) h2 nd.2.1 (by omega) (by
      intro j x hx
      have := hv (j + 1) x (by simpa using hx)
      rw [show i + 1 + j = i + (j + 1) by omega, show N + (i + 1) + j = N + i + (j + 1) by omega]; exact this)
    by_cases ho : v.hasOwn = true
    · have s1 := hs.put_own (N + i) v f1 (ht2 _ (by omega) (by omega)) (by rw [hu.2]; exact h1) nd.1 (by
        intro b hb s hbs
        exact nd.2.2 b hb b (hsub b ⟨s, hbs⟩) rfl)
      have s2 := s1.put_rel i (.ref (N + i) []) (by simp only [upF]; rw [if_neg (by omega)]; exact ht1 i (by omega)) (.ref (V := v) (u := v) (by simp [upF]) rfl (by simp [valAt, hu.1, hu.2]) .nil)
      have e : look (entry N i (v :: r)) = upF (upF (look (entry N (i + 1) r)) (N + i) (.val v)) i (.ref (N + i) []) := by
        funext s
        simp only [entry, ho, if_true, look, upF]
        by_cases hsi : s = i
        · subst hsi; simp
        · rw [if_neg (Ne.symm hsi), if_neg hsi]
          by_cases hsn : s = N + i
          · subst hsn; simp
          · rw [if_neg (Ne.symm hsn), if_neg hsn]
      rw [e]
      refine ⟨_, s2, ?_, ?_, ?_⟩
      · rintro b ⟨s, hb⟩
        simp only [upF] at hb
        split at hb
        · simp [hb]
        · simp [hsub b ⟨s, hb⟩]
      · intro s hs'
        simp only [upF]; rw [if_neg (by omega), if_neg (by omega)]; exact ht1 s (by omega)
      · intro s hs1 hs2
        simp only [upF]; rw [if_neg (by omega), if_neg (by omega)]; exact ht2 s hs1 (by omega)
    · have hn : v.hasOwn = false := by simpa using ho
      have hf1 : f1 = [] := h1.noOwn (by simp [anyOwn, hn])
      subst hf1
      have s2 := hs.put_rel i (.val v) (ht1 i (by omega)) (.val hn (by rw [hu.1]; exact h1) .nil)
      have e : look (entry N i (v :: r)) = upF (look (entry N (i + 1) r)) i (.val v) := by
        funext s
        simp only [entry, hn, upF]
        by_cases hsi : s = i
        · subst hsi; simp [look]
        · simp [look, hsi, Ne.symm hsi]
      rw [e]
      refine ⟨_, s2, ?_, ?_, ?_⟩
      · intro b hb; simp [hsub b hb]
      · intro s hs'
        simp only [upF]; rw [if_neg (by omega)]; exact ht1 s (by omega)
      · intro s hs1 hs2
        simp only [upF]; rw [if_neg (by omega)]; exact ht2 s hs1 (by omega)

inductive RS where
  | t (s : Nat)
  | c (s n : Nat) (ag : Bool)

def resA1 (σ : St) : RS → Option A
  | .t s => some (evalX σ (.t s))
  | .c s n ag => match locOf σ (evalX σ (.t s)) with
    | some l => loadA σ n ag l
    | none => none

def resT (σ : St) : List RS → Option (List V × St)
  | [] => some ([], σ)
  | x :: r => match resA1 σ x with
    | some y => match takeX σ y with
      | some (v, σ1) => match resT σ1 r with
        | some (vs, σ2) => some (v :: vs, σ2)
        | none => none
      | none => none
    | none => none

def fitsRes (P : Program) (N : Nat) : List RS → List ResultVar → Bool
  | [], [] => true
  | .t s :: r, .tmp s' :: rs => s == s' && decide (s < N) && fitsRes P N r rs
  | .c s n ag :: r, .cell s' t :: rs => s == s' && decide (s < N) && fitsTy P t n ag && fitsRes P N r rs
  | _, _ => false

def readRes (tmps : Array Value) : ResultVar → Sem Value
  | .tmp t => pure (tmps.getD t undef)
  | .cell a t => do loadVar t (← asAddr (tmps.getD a undef))

theorem resT_ok {P : Program} {a w O gv N vals} : ∀ {rs : List RS} {vars : List ResultVar} {σ fp Vs σ'}, Ok σ a w O gv N vals fp → fitsRes P N rs vars = true → resT σ rs = some (Vs, σ') →
    ∃ us fp' fpV, (vars.mapM (readRes a.tmps)).run P w = .ok us w ∧ Ok σ' a w O gv N vals fp' ∧ RdL w O Vs us fpV ∧ fpV.Nodup ∧ (∀ b ∈ fpV, Sof fp b ∧ ¬ Sof fp' b) ∧ (∀ b, Sof fp' b → Sof fp b) := by
  intro rs
  induction rs with
  | nil =>
    intro vars σ fp Vs σ' h hf ht
    cases vars <;> simp [fitsRes] at hf
    simp [resT] at ht; obtain ⟨rfl, rfl⟩ := ht
    exact ⟨[], fp, [], by simp, h, .nil, by simp, by simp, fun _ => id⟩
  | cons x r ih =>
    intro vars σ fp Vs σ' h hf ht
    cases vars with
    | nil => cases x <;> simp [fitsRes] at hf
    | cons y ys =>
      simp only [resT] at ht
      split at ht
      case h_2 => cases ht
      rename_i A hA
      split at ht
      case h_2 => cases ht
      rename_i v σ1 h1
      split at ht
      case h_2 => cases ht
      rename_i vs σ2 h2
      cases ht
      obtain ⟨u, hrun, hrel, hrest⟩ : ∃ u, (readRes a.tmps y).run P w = .ok u w ∧ RelL w O (look σ) vals [A] [u] ∧ fitsRes P N r ys = true := by
        cases x with
        | t s =>
          cases y with
          | tmp s' =>
            simp only [fitsRes, Bool.and_eq_true, beq_iff_eq, decide_eq_true_eq] at hf
            obtain ⟨⟨rfl, hs⟩, hr⟩ := hf
            simp only [resA1, Option.some.injEq] at hA; subst hA
            exact ⟨_, rfl, evalX_rel (o := .tmp s) h (by simp [fitsX, hs]), hr⟩
          | cell => simp [fitsRes] at hf
        | c s n ag =>
          cases y with
          | tmp s' => simp [fitsRes] at hf
          | cell s' t =>
            simp only [fitsRes, Bool.and_eq_true, beq_iff_eq, decide_eq_true_eq] at hf
            obtain ⟨⟨⟨rfl, hs⟩, hty⟩, hr⟩ := hf
            simp only [resA1] at hA
            split at hA
            case h_2 => cases hA
            rename_i l hl
            have hlr := locOf_rel h (evalX_rel (o := .tmp s) h (by simp [fitsX, hs])) hl
            obtain ⟨u, k1, k2⟩ := loadA_ok h hty hlr hA
            obtain ⟨b, c, hv, _⟩ := shiftL_rel 0 hlr
            have hv' : a.tmps.getD s undef = .pointer (some ⟨b, c, none⟩) := hv
            have k1' : (Instr.loadAt t (a.tmps.getD s undef)).run P w = .ok u w := k1
            rw [hv'] at k1'
            refine ⟨u, ?_, k2, hr⟩
            simp only [readRes, hv', asAddr, Sem.run_bind, Sem.run_pure, Result.andThen_ok]
            simpa [Instr.loadAt, Instr.sureAddr] using k1'
      obtain ⟨fp1, f1, o1, r1, n1, d1, s1⟩ := takeX_ok h hrel h1
      obtain ⟨us, fp2, f2, hm, o2, r2, n2, d2, s2⟩ := ih o1 hrest h2
      refine ⟨u :: us, fp2, f1 ++ f2, by simp [List.mapM_cons, hrun, hm], o2, r1.append r2, ?_, ?_, fun b hb => s1 b (s2 b hb)⟩
      · refine List.nodup_append.2 ⟨n1, n2, ?_⟩
        rintro b hb c hc rfl
        exact (d1 b hb).2 (d2 b hc).1
      · intro b hb
        rcases List.mem_append.1 hb with hb | hb
        · exact ⟨(d1 b hb).1, fun hh => (d1 b hb).2 (s2 b hh)⟩
        · exact ⟨s1 b (d2 b hb).1, (d2 b hb).2⟩

def resV : List V → V
  | [v] => v
  | vs => .tup vs

def outsOf (N : Nat) (σ : St) : Nat → List V → List V
  | _, [] => []
  | i, v :: r => (if v.hasOwn then (match look σ (N + i) with | .val U => U | _ => .dead) else .dead) :: outsOf N σ (i + 1) r

theorem outs_rd {w O vals fpf} {N : Nat} {σ : St} (h : Sim w O (look σ) vals fpf) : ∀ {args : List V} {i : Nat} {us : List Value}, us.length = args.length → (∀ j u, us[j]? = some u → vals (N + i + j) = u) →
    ∃ fpo, RdL w O (outsOf N σ i args) us fpo ∧ fpo.Nodup ∧ (∀ b ∈ fpo, ∃ s, N + i ≤ s ∧ b ∈ fpf s) := by
  intro args
  induction args with
  | nil => intro i us hl _; cases us <;> simp at hl; exact ⟨[], .nil, by simp, by simp⟩
  | cons v r ih =>
    intro i us hl hv
    cases us with
    | nil => simp at hl
    | cons u us =>
      obtain ⟨fpo, h1, h2, h3⟩ := ih (i := i + 1) (us := us) (by simpa using hl) (by
        intro j x hx
        have := hv (j + 1) x (by simpa using hx)
        rw [show N + (i + 1) + j = N + i + (j + 1) by omega]; exact this)
      have hu : vals (N + i) = u := by simpa using hv 0 u (by simp)
      have up : ∀ b ∈ fpo, ∃ s, N + i ≤ s ∧ b ∈ fpf s := fun b hb => by obtain ⟨s, hs, hb⟩ := h3 b hb; exact ⟨s, by omega, hb⟩
      simp only [outsOf]
      have dead : RdL w O (V.dead :: outsOf N σ (i + 1) r) (u :: us) fpo := .leaf (.dead u) h1
      split
      · split
        · rename_i U hU
          have hr := h.own _ _ hU
          rw [hu] at hr
          refine ⟨fpf (N + i) ++ fpo, hr.append h1, List.nodup_append.2 ⟨h.nd _, h2, ?_⟩, ?_⟩
          · rintro b hb c hc rfl
            obtain ⟨s, hs, hb'⟩ := h3 b hc
            have := h.dj _ _ b hb hb'
            omega
          · intro b hb
            rcases List.mem_append.1 hb with hb | hb
            · exact ⟨N + i, Nat.le_refl _, hb⟩
            · exact up b hb
        · exact ⟨fpo, dead, h2, up⟩
      · exact ⟨fpo, dead, h2, up⟩

def retQ (N : Nat) (rs : List RS) (args : List V) (R : V → List V → Prop) : Ex → St → Prop
  | .exit _, _ => False
  | .normal, σ => match resT σ rs with
    | some (vs, σ') => R (resV vs) (outsOf N σ' 0 args)
    | none => False
  | .ret, σ => match resT σ rs with
    | some (vs, σ') => R (resV vs) (outsOf N σ' 0 args)
    | none => False

def fitsF (P : Program) (f N : Nat) (ac : ACode) (rs : List RS) : Bool := match P.funcs[f]? with
  | some fn => fn.ntmps == N && !(fn.name == "runtime.NumGoroutine") && fitsRes P N rs fn.results.toList && (match fn.body with
    | some c => fitsC P N ac c
    | none => false)
  | none => false

theorem results_run {P : Program} {fn : Func} {tmps : Array Value} {w : World} {us : List Value} (h : (fn.results.toList.mapM (readRes tmps)).run P w = .ok us w) :
    (results fn tmps).run P w = .ok (match us with | [u] => u | us => .tuple us.toArray) w := by
  have e : results fn tmps = (fn.results.mapM (readRes tmps) >>= fun vs => pure (if h : vs.size = 1 then vs[0] else .tuple vs)) := by
    unfold results
    congr 1
  rw [e, Array.mapM_eq_mapM_toList]
  simp only [Sem.run_bind, Sem.run_map, h, Result.andThen_ok, Sem.run_pure]
  match us with
  | [] => rfl
  | [u] => rfl
  | _ :: _ :: _ => simp

theorem tri_body {P : Program} {f N : Nat} {ac : ACode} {rs : List RS} {args : List V} {R : V → List V → Prop} (hf : fitsF P f N ac rs = true) (hn : args.length ≤ N)
    (h : awp P ac (retQ N rs args R) (entry N 0 args)) : Tri P f args R := by
  intro w O us fp hrd hnd
  unfold fitsF at hf
  split at hf
  case h_2 => cases hf
  rename_i fn hfn
  simp only [Bool.and_eq_true, beq_iff_eq, Bool.not_eq_true'] at hf
  obtain ⟨⟨⟨hN, hname⟩, hres⟩, hbody⟩ := hf
  split at hbody
  case h_2 => cases hbody
  rename_i c hc
  refine ⟨⟨fn, c, hfn, hname, hc⟩, ?_⟩
  refine calls_of_wp hfn hc ?_
  have hul := hrd.length
  have hsz : us.toArray.size ≤ fn.ntmps := by simp; omega
  let a0 : Act := { tmps := us.toArray ++ Array.replicate (fn.ntmps - us.toArray.size) undef, defers := [] }
  let gv : Nat → Value := fun s => us.getD (s - N) undef
  let vals : Nat → Value := fun s => if s < N then a0.tmps.getD s undef else gv s
  have hvals : ∀ j u, us[j]? = some u → vals (0 + j) = u ∧ vals (N + 0 + j) = u := by
    intro j u hj
    have hlt : j < us.length := (List.getElem?_eq_some_iff.1 hj).1
    constructor
    · simp only [vals, Nat.zero_add]
      rw [if_pos (by omega)]
      have : a0.tmps[j]? = some u := by
        simp only [a0]
        rw [Array.getElem?_append_left (by simpa using hlt)]
        simpa using hj
      simp [this]
    · simp only [vals, gv]
      rw [if_neg (by omega)]
      have e : N + 0 + j - N = j := by omega
      rw [e, List.getD_eq_getElem?_getD, hj]; rfl
  obtain ⟨fpf, hsim, hsub, _, _⟩ := entry_sim (N := N) (i := 0) hrd hnd (by omega) hvals
  have hok : Ok (entry N 0 args) a0 w O gv N vals fpf :=
    ⟨hsim, fun s hs => by simp [vals, hs], fun s hs => by simp only [vals]; rw [if_neg (by omega)], by simp [a0]; omega, rfl⟩
  refine wp_mono (awp_sound ac hbody h hok) ?_
  rintro e a' w' ⟨ex, σ', O', vals', fp', he, hq, ho, hm⟩
  have fin : (match resT σ' rs with | some (vs, σ2) => R (resV vs) (outsOf N σ2 0 args) | none => False) → a'.defers = [] ∧ ∃ v, (results fn a'.tmps).run P w' = .ok v w' ∧
      ∃ res outs rv O' fpr fpo, R res outs ∧ Ending.returned v = .returned rv ∧ RdL w' O' [res] [rv] fpr ∧ RdL w' O' outs us fpo ∧ (fpr ++ fpo).Nodup ∧ Mv w O (· ∈ fp) w' O' (· ∈ fpr ++ fpo) := by
    intro hR
    split at hR
    case h_2 => exact hR.elim
    rename_i vs σ2 hT
    obtain ⟨rus, fp2, fpV, hrun, o2, rV, nV, dV, s2⟩ := resT_ok (P := P) ho hres hT
    obtain ⟨fpo, ro, no, mo⟩ := outs_rd (N := N) (i := 0) o2.sim (args := args) (us := us) hul (by
      intro j u hj
      rw [o2.hi _ (by omega)]
      have e : N + 0 + j - N = j := by omega
      simp only [gv]
      rw [e, List.getD_eq_getElem?_getD, hj]; rfl)
    refine ⟨ho.df, _, results_run hrun, resV vs, _, _, O', fpV, fpo, hR, rfl, ?_, ro, ?_, ?_⟩
    · have hl := rV.length
      match vs, rus, hl, rV with
      | [v], [u], _, rV => exact rV
      | [], [], _, rV => cases rV; exact .grp (fp1 := []) (fp2 := []) (.tup _ _) .nil .nil
      | v1 :: v2 :: r, u1 :: u2 :: q, _, rV =>
        have := RdL.grp (.tup (v1 :: v2 :: r) (u1 :: u2 :: q)) rV .nil
        rw [List.append_nil] at this
        exact this
    · refine List.nodup_append.2 ⟨nV, no, ?_⟩
      rintro b hb c hc rfl
      obtain ⟨s, _, hbs⟩ := mo b hc
      exact (dV b hb).2 ⟨s, hbs⟩
    · refine ⟨hm.os, hm.tape, hm.output, hm.size, fun b hb hS => hm.same b hb fun hh => hS (hsub b hh), fun b hb => ?_⟩
      have : Sof fp' b := by
        rcases List.mem_append.1 hb with h1 | h1
        · exact (dV b h1).1
        · obtain ⟨s, _, hbs⟩ := mo b h1; exact s2 b ⟨s, hbs⟩
      exact (hm.new b this).imp (hsub b) id
  cases e with
  | normal => simp only [exOf, Option.some.injEq] at he; subst he; exact fin hq
  | ret => simp only [exOf, Option.some.injEq] at he; subst he; exact fin hq
  | exit i => simp only [exOf, Option.some.injEq] at he; subst he; exact hq.elim
  | goto l => simp [exOf] at he
  | panic ch => simp [exOf] at he
  | outgrown => simp [exOf] at he

theorem awpCall_mono {P f d as} {K K' : St → Prop} {σ} (h : ∀ σ, K σ → K' σ) (ha : awpCall P f d as K σ) : awpCall P f d as K' σ := by
  unfold awpCall at *
  split at ha
  · split at ha
    · exact ha.mono fun r o hr => h _ hr
    · exact ha.elim
  split at ha
  · rename_i vs ls rs hargs
    refine ⟨ha.1, ha.2.mono fun r o hr => ?_⟩
    unfold afterCall at *
    split at hr
    · exact ⟨hr.1, h _ hr.2⟩
    · refine ⟨hr.1, ?_⟩
      have hr2 := hr.2
      split at hr2
      · rename_i hout hT
        refine ⟨hr2.1, hr2.2.1, ?_⟩
        have hr3 := hr2.2.2
        split at hr3
        · exact h _ hr3
        · exact hr3
      · exact hr2
    · exact hr
  · exact ha

theorem awpOp_mono {P o} {K K' : St → Prop} {σ} (h : ∀ σ, K σ → K' σ) (ha : awpOp P o K σ) : awpOp P o K' σ := by
  unfold awpOp at *
  split at ha
  · exact awpCall_mono h ha
  · split at ha
    · exact awpCall_mono h ha
    · exact ha
  · split at ha
    · exact h _ ha
    · exact ha

theorem awpOps_mono {P} : ∀ {gs : List G} {K K' : St → Prop} {σ}, (∀ σ, K σ → K' σ) → awpOps P gs K σ → awpOps P gs K' σ := by
  intro gs
  induction gs with
  | nil => intro K K' σ h ha; exact h _ ha
  | cons x r ih =>
    intro K K' σ h ha
    simp only [awpOps] at *
    split at ha
    · exact awpOp_mono (fun σ => ih h) ha
    · split at ha
      · exact ⟨fun hb => awpOp_mono (fun σ => ih h) (ha.1 hb), fun hb => ih h (ha.2 hb)⟩
      · exact ih h ha
      · exact ha

theorem preOp_mono {P : Program} {o : AOp} {σ : St} {c c' : Nat → A → Prop} (h : ∀ d a, c d a → c' d a) (ha : preOp P o σ c) : preOp P o σ c' := by
  unfold preOp at *
  split at ha
  · obtain ⟨h1, h2⟩ := ha
    refine ⟨h1, ?_⟩
    split at h2
    · obtain ⟨v, h3, h4⟩ := h2; exact ⟨v, h3, h _ _ h4⟩
    · exact h2
  · split at ha
    · exact h _ _ ha
    · exact ha

theorem awpPre_mono {P : Program} {σ0 : St} : ∀ {pre : List (G × List Nat)} {acc : St} {K K' : St → Prop}, (∀ σ, K σ → K' σ) → awpPre P σ0 pre acc K → awpPre P σ0 pre acc K' := by
  intro pre
  induction pre with
  | nil => intro acc K K' h ha; exact h _ ha
  | cons x r ih =>
    intro acc K K' h ha
    obtain ⟨x, hide⟩ := x
    simp only [awpPre] at *
    split at ha
    · exact preOp_mono (fun d a hh => ⟨hh.1, ih h hh.2⟩) ha
    · split at ha
      · refine ⟨fun hb => preOp_mono (fun d a hh => ⟨hh.1, ih h hh.2⟩) (ha.1 hb), fun hb => ?_⟩
        have h2 := ha.2 hb
        split at h2
        · exact ⟨h2.1, ih h h2.2⟩
        · exact h2
      · split at ha
        · exact ⟨ha.1, ih h ha.2⟩
        · exact ha
      · exact ha

theorem thenQ_mono {n n' : St → Prop} {Q Q' : Ex → St → Prop} (h1 : ∀ σ, n σ → n' σ) (h2 : ∀ e σ, Q e σ → Q' e σ) : ∀ e σ, thenQ n Q e σ → thenQ n' Q' e σ := by
  intro e σ h
  cases e
  · exact h1 σ h
  · exact h2 _ σ h
  · exact h2 _ σ h

theorem awp_mono {P} : ∀ {c : ACode} {Q Q' : Ex → St → Prop} {σ}, (∀ e σ, Q e σ → Q' e σ) → awp P c Q σ → awp P c Q' σ := by
  intro c
  induction c with
  | skip => intro Q Q' σ h ha; exact h _ _ ha
  | reg gs => intro Q Q' σ h ha; exact awpOps_mono (h .normal) ha
  | dreg pre post => intro Q Q' σ h ha; exact awpPre_mono (fun σ => awpOps_mono (h .normal)) ha
  | seq a b ih1 ih2 => intro Q Q' σ h ha; exact ih1 (thenQ_mono (fun σ => ih2 h) h) ha
  | cond x t e ih1 ih2 =>
    intro Q Q' σ h ha
    simp only [awp] at *
    split at ha
    · exact ⟨fun hb => ih1 h (ha.1 hb), fun hb => ih2 h (ha.2 hb)⟩
    · exact ha
  | block i c ih =>
    intro Q Q' σ h ha
    refine ih ?_ ha
    intro e σ hq
    cases e with
    | normal => exact h _ _ hq
    | exit j => simp only [blockQ] at *; split at hq <;> rename_i hj <;> simp only [hj, if_true, if_false] <;> exact h _ _ hq
    | ret => exact h _ _ hq
  | loop c ih =>
    intro Q Q' σ h ha
    obtain ⟨ks, n, hl⟩ := ha
    refine ⟨ks, n, ?_⟩
    have key : ∀ n σ, loopN (awp P c) ks (less Q) n σ → loopN (awp P c) ks (less Q') n σ := by
      intro n
      induction n with
      | zero => intro σ hh; exact hh
      | succ n ihn => intro σ hh; exact ih (thenQ_mono (fun σ => ihn _) (less_mono h)) hh
    exact key n _ hl
  | exit i => intro Q Q' σ h ha; exact h _ _ ha
  | ret => intro Q Q' σ h ha; exact h _ _ ha
  | drop ds c ih => intro Q Q' σ h ha; exact ih h ha
  | cut c ih => intro Q Q' σ h ha; exact ih (less_mono h) ha
  | frz ss c ih => intro Q Q' σ h ha; exact ih h ha

theorem loopN_up {P c ks Q} : ∀ {n m σ}, n ≤ m → loopN (awp P c) ks Q n σ → loopN (awp P c) ks Q m σ := by
  intro n
  induction n with
  | zero => intro m σ _ h; exact h.elim
  | succ n ih =>
    intro m σ hm h
    cases m with
    | zero => omega
    | succ m => exact awp_mono (thenQ_mono (fun σ => ih (by omega)) fun _ _ => id) h

/-- a loop by a relation and a measure; only the slots 'ks' are kept from round to round -/
theorem awp_loop {P : Program} {c : ACode} {Q : Ex → St → Prop} {σ : St} (ks : List Nat) (I : Nat → St → Prop) (n : Nat) (h0 : I n (restrict ks σ))
    (hr : ∀ n σ, I n σ → awp P c (thenQ (fun σ' => ∃ m, m < n ∧ I m (restrict ks σ')) (less Q)) σ) : awp P (.loop c) Q σ := by
  refine ⟨ks, n + 1, ?_⟩
  have key : ∀ n σ, I n σ → loopN (awp P c) ks (less Q) (n + 1) σ := by
    intro n
    induction n using Nat.strongRecOn with
    | _ n ih =>
      intro σ hI
      refine awp_mono (thenQ_mono ?_ fun _ _ => id) (hr n σ hI)
      rintro σ' ⟨m, hm, hI'⟩
      exact loopN_up (by omega) (ih m hm _ hI')
  exact key n _ h0

end Go.Proofs.Ythcnmahjhahafaa.Ax
