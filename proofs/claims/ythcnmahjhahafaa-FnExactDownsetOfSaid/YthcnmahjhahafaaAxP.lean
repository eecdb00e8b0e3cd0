/-
  Small code, its weakest precondition over states, and that the program's code follows it.
-/
import Derived.Test.YthcnmahjhahafaaAxO
namespace Go.Proofs.Ythcnmahjhahafaa.Ax
open Go

/-- an operation under a guard: the slot that decides, and how -/
structure G where
  g : Option (Nat × Bool)
  o : AOp

def AOp.dst : AOp → Option Nat
  | .mov d _ => some d
  | .asg d _ => some d
  | .pick d _ _ _ => some d
  | .bin d _ _ _ => some d
  | .binb d _ _ _ => some d
  | .un d _ _ => some d
  | .len d _ => some d
  | .slen d _ => some d
  | .max d _ _ => some d
  | .ext d _ _ => some d
  | .iad d _ _ _ => some d
  | .aad d _ _ _ _ => some d
  | .fadr d _ _ => some d
  | .ld d _ _ _ => some d
  | .st _ _ _ => none
  | .fld d _ _ _ _ => some d
  | .idx d _ _ _ _ _ => some d
  | .box d _ => some d
  | .alc d _ => some d
  | .mk d _ _ _ => some d
  | .bsl d _ _ => some d
  | .bld d _ _ => some d
  | .app d _ _ _ => some d
  | .slc d _ _ _ _ => some d
  | .nck d _ => some d
  | .mkf d _ _ => some d
  | .call d _ _ => some d
  | .cally d _ _ => some d

def evalAs (σ : St) (as : List (X × Bool)) : List (A × Bool) := as.map fun e => (evalX σ e.1, e.2)

theorem givenOf_plain {σ : St} {as : List (X × Bool)} (h : as.all (fun e => !e.2) = true) : givenOf (evalAs σ as) = none := by
  cases as with
  | nil => rfl
  | cons x r =>
    obtain ⟨x, io⟩ := x
    simp at h
    simp only [evalAs, List.map_cons, h.1]
    cases evalX σ x <;> rfl
/-- what a function value calls, and what it adds to the arguments -/
def cloOf : A → Option (Nat × List (A × Bool))
  | .val (.clo f cs) => some (f, cs.map fun c => (.val c, false))
  | .val (.fclo f cs) => some (f, (fzL cs).map fun c => (.val c, false))
  | .clo f as => some (f, as.map fun a => (a, false))
  | _ => none

def awpOp (P : Program) (o : AOp) (K : St → Prop) (σ : St) : Prop := match o with
  | .call d f as => awpCall P f d (evalAs σ as) K σ
  | .cally d x as => match cloOf (evalX σ x) with
    | some (f, cs) => awpCall P f d (evalAs σ (as.map (·, false)) ++ cs) K σ
    | none => False
  | o => match stepA o σ with
    | some σ' => K σ'
    | none => False

def skipA (o : AOp) (σ : St) : St := match o.dst with
  | some d => puts d (.val (.tup [])) σ
  | none => σ

def awpOps (P : Program) : List G → (St → Prop) → St → Prop
  | [], K, σ => K σ
  | x :: r, K, σ => match x.g with
    | none => awpOp P x.o (awpOps P r K) σ
    | some (s, want) => match look σ s with
      | .val (.bool b) => (b = want → awpOp P x.o (awpOps P r K) σ) ∧ (b = (!want) → awpOps P r K (skipA x.o σ))
      | .val (.tup []) => awpOps P r K (skipA x.o σ)
      | _ => False

def fitsO (P : Program) (N : Nat) (o : Oper) (ao : AOp) : Bool := match ao with
  | .call d f as => o.dst == some d && decide (d < N) && (match o.op with
    | .call { callee := .value (.func f'), args, .. } => f' == f && fitsXs N (as.map (·.1)) args.toList
    | _ => false)
  | .cally d x as => o.dst == some d && decide (d < N) && (match o.op with
    | .call { callee := .value c, args, .. } => fitsX N x c && fitsXs N as args.toList
    | _ => false)
  | ao => fitsOp P N o ao

def fitsG (P : Program) (N : Nat) (ops : Array Oper) (x : G) (o : Oper) : Bool := fitsO P N o x.o && o.dst == x.o.dst && (match x.o.dst with | some d => decide (d < N) | none => true) &&
  (match x.g, o.guard with
  | none, none => true
  | some (s, want), some (j, want') => want == want' && decide (s < N) && (match (ops[j]?).bind (·.dst) with | some s' => s' == s | none => false)
  | _, _ => false)

def fitsGs (P : Program) (N : Nat) (ops : Array Oper) : List G → List Oper → Bool
  | [], [] => true
  | x :: xs, o :: os => fitsG P N ops x o && fitsGs P N ops xs os
  | _, _ => false

theorem run_enter {P : Program} {f : FuncId} {fn : Func} {c : Code} (hf : P.funcs[f]? = some fn) (hname : (fn.name == "runtime.NumGoroutine") = false) (hb : fn.body = some c) (args : Array Value) (w : World) :
    (callFunc f args).run P w = .ok (.enter f args) w := by
  have hn : ¬ fn.name = "runtime.NumGoroutine" := by simpa using hname
  simp [callFunc, hf, hn, hb]

theorem rd_clo {w O f cs v fp} (h : RdL w O [.clo f cs] [v] fp) : ∃ us : List Value, v = .func (.func f) #[] us.toArray ∧ RdL w O cs us fp := by
  cases h with
  | leaf hl _ => cases hl
  | grp hg s t => cases hg; cases t; exact ⟨_, rfl, by simpa using s⟩
  | fblk hh _ _ _ _ => cases hh
  | oblk hh _ _ _ _ _ => cases hh

theorem rd_fclo {w O f cs v fp} (h : RdL w O [.fclo f cs] [v] fp) : ∃ us : List Value, v = .func (.func f) #[] us.toArray ∧ RdL w O (fzL cs) us fp := by
  cases h with
  | leaf hl _ => cases hl
  | grp hg s t =>
    cases hg with
    | fclo _ _ _ _ e => subst e; cases t; exact ⟨_, rfl, by simpa using s⟩
  | fblk hh _ _ _ _ => cases hh
  | oblk hh _ _ _ _ _ => cases hh

theorem evalAs_rel {σ a w O gv N vals fp} (h : Ok σ a w O gv N vals fp) {as : List (X × Bool)} {os : List Operand} (hf : fitsXs N (as.map (·.1)) os = true) :
    RelL w O (look σ) vals ((evalAs σ as).map (·.1)) (os.map a.eval) := by
  have := evalXs_rel h hf
  simpa [evalAs, Function.comp_def] using this

theorem op_sound {P : Program} {o : Oper} {ao : AOp} {σ a w O gv N vals fp} {K : St → Prop} {next Q} (hf : fitsO P N o ao = true) (h : Ok σ a w O gv N vals fp) (ha : awpOp P ao K σ) (hn : Next1 w O gv N fp K next) :
    o.wp P a w next Q := by
  have other : (∀ d f as, ao ≠ .call d f as) → (∀ d x as, ao ≠ .cally d x as) → o.wp P a w next Q := by
    intro h1 h2
    have hf' : fitsOp P N o ao = true := by
      cases ao <;> first | exact hf | exact absurd rfl (h1 _ _ _) | exact absurd rfl (h2 _ _ _)
    have ha' : match stepA ao σ with | some σ' => K σ' | none => False := by
      cases ao <;> first | exact ha | exact absurd rfl (h1 _ _ _) | exact absurd rfl (h2 _ _ _)
    split at ha'
    · rename_i σ' hs
      exact upon_step (step_sound hf' h hs) ha' hn
    · exact ha'.elim
  by_cases h1 : ∃ d f as, ao = .call d f as
  · obtain ⟨d, f, as, rfl⟩ := h1
    simp only [fitsO, Bool.and_eq_true, beq_iff_eq, decide_eq_true_eq] at hf
    obtain ⟨⟨hd, hN⟩, hf⟩ := hf
    split at hf
    case h_2 => cases hf
    rename_i f' args ats ho
    simp only [Bool.and_eq_true, beq_iff_eq] at hf
    obtain ⟨rfl, hx⟩ := hf
    refine call_sound h hd hN (evalAs_rel h hx) ha hn ?_
    rintro ⟨fn, c, g1, g2, g3⟩
    have e : (args.toList.map a.eval).toArray = args.map a.eval := by rw [← Array.toList_map]
    rw [e]
    have := run_enter (P := P) g1 g2 g3 (args.map a.eval) w
    simp [execOp, ho, resolve, Act.eval, Deferred.ofValue, invoke, this]
  · by_cases h2 : ∃ d x as, ao = .cally d x as
    · obtain ⟨d, x, as, rfl⟩ := h2
      simp only [fitsO, Bool.and_eq_true, beq_iff_eq, decide_eq_true_eq] at hf
      obtain ⟨⟨hd, hN⟩, hf⟩ := hf
      split at hf
      case h_2 => cases hf
      rename_i c args ats ho
      simp only [Bool.and_eq_true] at hf
      obtain ⟨hx, has⟩ := hf
      simp only [awpOp] at ha
      split at ha
      case h_2 => exact ha.elim
      rename_i f cs hclo
      have hrx := evalX_rel h hx
      have hras := evalAs_rel h (as := as.map (·, false)) (os := args.toList) (by simpa [Function.comp_def] using has)
      -- the function value
      obtain ⟨us, hval, hus⟩ : ∃ us : List Value, a.eval c = .func (.func f) #[] us.toArray ∧ RelL w O (look σ) vals (cs.map (·.1)) us := by
        generalize evalX σ x = y at hrx hclo
        generalize a.eval c = v at hrx
        cases hrx with
        | @val z v _ _ hn' hr _ =>
          cases z with
          | clo f' cs' =>
            simp [cloOf] at hclo
            obtain ⟨rfl, rfl⟩ := hclo
            obtain ⟨us, rfl, s⟩ := rd_clo hr
            refine ⟨us, rfl, ?_⟩
            have := vals_relL (L := look σ) (vals := vals) s (by simpa [V.hasOwn] using hn')
            simpa [Function.comp_def] using this
          | fclo f' cs' =>
            simp [cloOf] at hclo
            obtain ⟨rfl, rfl⟩ := hclo
            obtain ⟨us, rfl, s⟩ := rd_fclo hr
            refine ⟨us, rfl, ?_⟩
            have := vals_relL (L := look σ) (vals := vals) s (fzL_noOwn cs')
            simpa [Function.comp_def] using this
          | _ => simp [cloOf] at hclo
        | clo s t => cases t; simp [cloOf] at hclo; obtain ⟨rfl, rfl⟩ := hclo; exact ⟨_, rfl, by simpa [Function.comp_def] using s⟩
        | _ => simp [cloOf] at hclo
      refine call_sound (us := args.toList.map a.eval ++ us) h hd hN (by rw [List.map_append]; exact hras.append hus) ha hn ?_
      rintro ⟨fn, c', g1, g2, g3⟩
      have e : (args.toList.map a.eval ++ us).toArray = args.map a.eval ++ us.toArray := by
        apply Array.toList_inj.1; simp
      rw [e]
      have := run_enter (P := P) g1 g2 g3 (args.map a.eval ++ us.toArray) w
      simp [execOp, ho, resolve, hval, Deferred.ofValue, invoke, this]
    · exact other (fun d f as e => h1 ⟨d, f, as, e⟩) (fun d x as e => h2 ⟨d, x, as, e⟩)

theorem skip_ok {σ a w O gv N vals fp} {ao : AOp} {o : Oper} (h : Ok σ a w O gv N vals fp) (hd : o.dst = ao.dst) (hN : ∀ d, ao.dst = some d → d < N) :
    ∃ vals' fp', Ok (skipA ao σ) (a.put o.dst undef) w O gv N vals' fp' ∧ (∀ b, Sof fp' b → Sof fp b) := by
  rw [hd]
  unfold skipA
  cases hdst : ao.dst with
  | none => exact ⟨vals, fp, h, fun _ => id⟩
  | some d =>
    obtain ⟨fp', h1, h2⟩ := h.put_rel (hN d hdst) (x := .val (.tup [])) (v := undef) (.val rfl (RdL.grp (fp1 := []) (fp2 := []) (.tup [] []) .nil .nil) .nil)
    exact ⟨_, fp', h1, h2⟩

theorem Next1.pre {w O gv N fp K next w1 O1 fp1} (h : Next1 w O gv N fp K next) (hm : Mv w O (Sof fp) w1 O1 (Sof fp1)) : Next1 w1 O1 gv N fp1 K next :=
  fun σ' a' w' O' vals' fp' hk ho hm' => h σ' a' w' O' vals' fp' hk ho (hm.trans hm')

theorem yielded_of {σ a w O gv N vals fp} (h : Ok σ a w O gv N vals fp) {ops : Array Oper} {j s : Nat} {b : Bool} (hj : (ops[j]?).bind (·.dst) = some s) (hs : s < N) (hb : look σ s = .val (.bool b)) :
    yielded ops a.tmps j = some b := by
  have hv : vals s = .bool b := rd_leaf_bool (h.sim.own s _ hb)
  rw [h.lo s hs] at hv
  unfold yielded
  rw [hj]
  have : a.tmps[s]? = some (.bool b) := by
    have hlt : s < a.tmps.size := by rw [h.sz]; exact hs
    simp [hlt] at hv ⊢
    exact hv
  simp [this]

theorem yielded_non {σ a w O gv N vals fp} (h : Ok σ a w O gv N vals fp) {ops : Array Oper} {j s : Nat} (hj : (ops[j]?).bind (·.dst) = some s) (hs : s < N) (hb : look σ s = .val (.tup [])) :
    yielded ops a.tmps j = none := by
  obtain ⟨vs, hv, hr⟩ := rd_tup (h.sim.own s _ hb)
  have hl := hr.length
  obtain rfl : vs = [] := by simpa using hl
  rw [h.lo s hs] at hv
  unfold yielded
  rw [hj]
  have : a.tmps[s]? = some (.tuple #[]) := by
    have hlt : s < a.tmps.size := by rw [h.sz]; exact hs
    simp [hlt] at hv ⊢
    exact hv
  simp [this]

theorem ops_sound {P : Program} {ops : Array Oper} {Q : Exit → Act → World → Prop} : ∀ {gs : List G} {os : List Oper} {σ a w O gv N vals fp} {K : St → Prop}, fitsGs P N ops gs os = true → Ok σ a w O gv N vals fp → awpOps P gs K σ →
    Next1 w O gv N fp K (Q .normal) → wpList P ops Q os a w := by
  intro gs
  induction gs with
  | nil =>
    intro os σ a w O gv N vals fp K hf h ha hn
    cases os with
    | nil => exact hn _ _ _ _ _ _ ha h (Mv.refl _ _ _)
    | cons _ _ => simp [fitsGs] at hf
  | cons x r ih =>
    intro os σ a w O gv N vals fp K hf h ha hn
    cases os with
    | nil => simp [fitsGs] at hf
    | cons o os =>
      simp only [fitsGs, Bool.and_eq_true] at hf
      obtain ⟨hx, hr⟩ := hf
      simp only [fitsG, Bool.and_eq_true, beq_iff_eq] at hx
      obtain ⟨⟨⟨hfo, hdst⟩, hdN⟩, hg⟩ := hx
      have hdN' : ∀ d, x.o.dst = some d → d < N := by
        intro d hd; rw [hd] at hdN; simpa using hdN
      have run : awpOp P x.o (awpOps P r K) σ → o.wp P a w (wpList P ops Q os) Q := fun hh =>
        op_sound hfo h hh fun σ' a' w' O' vals' fp' hk ho hm => ih hr ho hk (hn.pre hm)
      have skip : awpOps P r K (skipA x.o σ) → wpList P ops Q os (a.put o.dst undef) w := fun hh => by
        obtain ⟨vals', fp', h1, h2⟩ := skip_ok h hdst hdN'
        exact ih hr h1 hh (hn.pre ((Mv.refl _ _ _).shrink h2))
      simp only [awpOps] at ha
      simp only [wpList]
      split at ha
      · rename_i hxg
        rw [hxg] at hg
        cases hog : o.guard with
        | none =>
          have hw : Region.wanted o (yielded ops a.tmps) = true := by simp [Region.wanted, hog]
          rw [if_pos hw]
          exact .inl (run ha)
        | some q => rw [hog] at hg; simp at hg
      · rename_i s want hxg
        rw [hxg] at hg
        cases hog : o.guard with
        | none => rw [hog] at hg; simp at hg
        | some q =>
          obtain ⟨j, want'⟩ := q
          rw [hog] at hg
          simp only [Bool.and_eq_true, beq_iff_eq, decide_eq_true_eq] at hg
          obtain ⟨⟨rfl, hsN⟩, hj⟩ := hg
          split at hj
          case h_2 => cases hj
          rename_i s2 hs2
          have : s2 = s := by simpa using hj
          subst this
          split at ha
          case h_3 => exact ha.elim
          case h_2 =>
            rename_i hb
            have hw : Region.wanted o (yielded ops a.tmps) = false := by simp [Region.wanted, hog, yielded_non h hs2 hsN hb]
            rw [if_neg (by simp [hw])]
            exact skip ha
          rename_i b hb
          have hy := yielded_of h hs2 hsN hb
          have hwn : Region.wanted o (yielded ops a.tmps) = (b == want) := by
            simp [Region.wanted, hog, hy]
          rw [hwn]
          by_cases hbw : b = want
          · rw [if_pos (by simpa using hbw)]
            exact .inl (run (ha.1 hbw))
          · have hbn : b = (!want) := by cases b <;> cases want <;> simp_all
            rw [if_neg (by simpa using hbw)]
            exact skip (ha.2 hbn)

end Go.Proofs.Ythcnmahjhahafaa.Ax
