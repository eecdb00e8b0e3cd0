/-
  Small code, whole, and that the program's code follows it.
-/
import Derived.Test.YthcnmahjhahafaaAxT
namespace Go.Proofs.Ythcnmahjhahafaa.Ax
open Go

inductive Ex where
  | normal
  | exit (id : Nat)
  | ret

inductive ACode where
  | skip
  | reg (gs : List G)
  | dreg (pre : List (G × List Nat)) (post : List G)
  | seq (a b : ACode)
  | cond (x : X) (t e : ACode)
  | block (id : Nat) (c : ACode)
  | loop (c : ACode)
  | exit (id : Nat)
  | ret
  | drop (ds : List Nat) (c : ACode)
  | cut (c : ACode)
  | frz (ss : List Nat) (c : ACode)

def thenQ (n : St → Prop) (Q : Ex → St → Prop) : Ex → St → Prop
  | .normal, σ => n σ
  | .exit i, σ => Q (.exit i) σ
  | .ret, σ => Q .ret σ

def blockQ (id : Nat) (Q : Ex → St → Prop) : Ex → St → Prop
  | .normal, σ => Q .normal σ
  | .exit i, σ => if i = id then Q .normal σ else Q (.exit i) σ
  | .ret, σ => Q .ret σ

def loopN (body : (Ex → St → Prop) → St → Prop) (ks : List Nat) (Q : Ex → St → Prop) : Nat → St → Prop
  | 0, _ => False
  | n + 1, σ => body (thenQ (fun σ' => loopN body ks Q n (restrict ks σ')) Q) σ

/-- a state may be known less well -/
def less (Q : Ex → St → Prop) : Ex → St → Prop := fun ex σ => Q ex σ ∨ ∃ ks, Q ex (restrict ks σ)
theorem less_mono {Q Q' : Ex → St → Prop} (h : ∀ e σ, Q e σ → Q' e σ) : ∀ e σ, less Q e σ → less Q' e σ := by
  rintro e σ (hq | ⟨ks, hq⟩)
  · exact .inl (h _ _ hq)
  · exact .inr ⟨ks, h _ _ hq⟩

/-- what a slot owns is not written any more -/
def frz1 (s : Nat) (σ : St) : St := match look σ s with
  | .val V => puts s (.val V.fz) (puts s .top σ)
  | _ => σ
def frzS : List Nat → St → St
  | [], σ => σ
  | s :: r, σ => frzS r (frz1 s σ)

def awp (P : Program) : ACode → (Ex → St → Prop) → St → Prop
  | .skip, Q, σ => Q .normal σ
  | .reg gs, Q, σ => awpOps P gs (Q .normal) σ
  | .dreg pre post, Q, σ => awpPre P σ pre [] fun σ' => awpOps P post (Q .normal) σ'
  | .seq a b, Q, σ => awp P a (thenQ (awp P b Q) Q) σ
  | .cond x t e, Q, σ => match evalX σ x with
    | .val (.bool b) => (b = true → awp P t Q σ) ∧ (b = false → awp P e Q σ)
    | _ => False
  | .block id c, Q, σ => awp P c (blockQ id Q) σ
  | .loop c, Q, σ => ∃ ks n, loopN (awp P c) ks (less Q) n (restrict ks σ)
  | .exit id, Q, σ => Q (.exit id) σ
  | .ret, Q, σ => Q .ret σ
  | .drop ds c, Q, σ => awp P c Q (dropS ds σ)
  | .cut c, Q, σ => awp P c (less Q) σ
  | .frz ss c, Q, σ => awp P c Q (frzS ss σ)

def fitsC (P : Program) (N : Nat) : ACode → Code → Bool
  | .skip, .skip => true
  | .reg gs, .region _ ops false => fitsGs P N ops gs ops.toList
  | .dreg pre post, .region _ ops true => fitsD P N ops pre post
  | .seq a b, .seq c d => fitsC P N a c && fitsC P N b d
  | .cond x t e, .cond o c d => fitsX N x o && fitsC P N t c && fitsC P N e d
  | .block i c, .block j d => i == j && fitsC P N c d
  | .loop c, .loop d => fitsC P N c d
  | .exit i, .exit j => i == j
  | .ret, .ret => true
  | .drop _ c, d => fitsC P N c d
  | .cut c, d => fitsC P N c d
  | .frz _ c, d => fitsC P N c d
  | _, _ => false

def exOf : Exit → Option Ex
  | .normal => some .normal
  | .exit i => some (.exit i)
  | .ret => some .ret
  | _ => none

/-- the program's post, out of one over states -/
def Lift (w : World) (O : Nat → Prop) (gv : Nat → Value) (N : Nat) (fp : Nat → List Nat) (Q : Ex → St → Prop) : Exit → Act → World → Prop := fun e a' w' =>
  ∃ ex σ' O' vals' fp', exOf e = some ex ∧ Q ex σ' ∧ Ok σ' a' w' O' gv N vals' fp' ∧ Mv w O (Sof fp) w' O' (Sof fp')

theorem Lift.pre {w O gv N fp Q w1 O1 fp1 e a' w'} (hm : Mv w O (Sof fp) w1 O1 (Sof fp1)) (h : Lift w1 O1 gv N fp1 Q e a' w') : Lift w O gv N fp Q e a' w' := by
  obtain ⟨ex, σ', O', vals', fp', h1, h2, h3, h4⟩ := h
  exact ⟨ex, σ', O', vals', fp', h1, h2, h3, hm.trans h4⟩

theorem Lift.less {w O gv N fp Q e a' w'} (h : Lift w O gv N fp (less Q) e a' w') : Lift w O gv N fp Q e a' w' := by
  obtain ⟨ex, σ', O', vals', fp', h1, h2, h3, h4⟩ := h
  rcases h2 with h2 | ⟨ks, h2⟩
  · exact ⟨ex, σ', O', vals', fp', h1, h2, h3, h4⟩
  · obtain ⟨fp2, ho2, hs2⟩ := h3.restrict ks
    exact ⟨ex, _, O', vals', fp2, h1, h2, ho2, h4.shrink hs2⟩

theorem frz1_ok {σ a w O gv N vals fp} (s : Nat) (h : Ok σ a w O gv N vals fp) : ∃ O' fp', Ok (frz1 s σ) a w O' gv N vals fp' ∧ Mv w O (Sof fp) w O' (Sof fp') := by
  unfold frz1
  split
  case h_2 => exact ⟨O, fp, h, Mv.refl _ _ _⟩
  rename_i V hV
  have h1 := h.sim.put_top s (vals s)
  rw [upF_self, ← look_puts_top] at h1
  have hd : ∀ t b, b ∈ upF fp s [] t → b ∉ fp s := by
    intro t b hb hbs
    simp only [upF] at hb
    split at hb
    · simp at hb
    · rename_i hne; exact hne (h.sim.dj t s b hb hbs)
  have hstill : Still w O w (fun b => O b ∧ b ∉ fp s) := fun b hb _ => ⟨rfl, fun hh => hb hh.1⟩
  have h2 := h1.world hstill (fun t b hb => ⟨rfl, (h1.fpO t b hb).1, hd t b hb⟩)
  have hr : RdL w (fun b => O b ∧ b ∉ fp s) [V.fz] [vals s] [] := RdL.fz (h.sim.own s V hV) (fun b hb hh => hh.2 hb) (fun b hb _ hh => hb hh.1)
  have h3 := h2.put_own s V.fz [] (by rw [look_puts]; simp [upF, A.mapR]) hr (by simp) (by simp)
  have e : look (puts s (.val V.fz) (puts s .top σ)) = upF (look (puts s .top σ)) s (.val V.fz) := by
    rw [look_puts]
    funext t
    simp only [upF, setF]
    split
    · rfl
    · rename_i ht
      rw [look_puts_top]
      simp only [setF, if_neg ht]
      generalize look σ t = x
      have key : ∀ r l, killG s 0 r l = none ∨ killG s 0 r l = some r := by intro r l; unfold killG; split <;> simp
      exact mapR_idemG (killG s 0) key x
  rw [← e] at h3
  refine ⟨_, _, ⟨h3, h.lo, h.hi, h.sz, h.df⟩, ⟨rfl, rfl, rfl, Nat.le_refl _, ?_, ?_⟩⟩
  · intro b _ hb
    exact ⟨rfl, ⟨fun hh => hh.1, fun hh => ⟨hh, fun hc => hb ⟨s, hc⟩⟩⟩⟩
  · rintro b ⟨t, ht⟩
    left
    simp only [upF] at ht
    split at ht
    · simp at ht
    · exact ⟨t, ht⟩

theorem frzS_ok {a w gv N vals} : ∀ (ss : List Nat) {σ O fp}, Ok σ a w O gv N vals fp → ∃ O' fp', Ok (frzS ss σ) a w O' gv N vals fp' ∧ Mv w O (Sof fp) w O' (Sof fp') := by
  intro ss
  induction ss with
  | nil => intro σ O fp h; exact ⟨O, fp, h, Mv.refl _ _ _⟩
  | cons s r ih =>
    intro σ O fp h
    obtain ⟨O1, fp1, h1, m1⟩ := frz1_ok s h
    obtain ⟨O2, fp2, h2, m2⟩ := ih h1
    exact ⟨O2, fp2, h2, m1.trans m2⟩

theorem loop_sound {P : Program} {N : Nat} {c : ACode} {d : Code} {ks : List Nat} {gv : Nat → Value}
    (ih : ∀ {Q : Ex → St → Prop} {σ a w O vals fp}, awp P c Q σ → Ok σ a w O gv N vals fp → d.wp P (Lift w O gv N fp Q) a w) {Q : Ex → St → Prop} :
    ∀ n σ a w O vals fp, loopN (awp P c) ks Q n σ → Ok σ a w O gv N vals fp → (Code.loop d).wp P (Lift w O gv N fp Q) a w := by
  intro n σ a w O vals fp hl ho
  -- the rounds that are left measure the loop
  have key : ∀ n σ a w O vals fp, loopN (awp P c) ks Q n σ → Ok σ a w O gv N vals fp → ∀ (b : Frame) (k : List Item) (cs : List Frame),
      ∃ e a' w', Lift w O gv N fp Q e a' w' ∧ Arrives P (lone (b.at a (.code d :: .inLoop d :: k)) cs w) b k cs e a' w' := by
    intro n
    induction n with
    | zero => intro σ a w O vals fp hl; exact hl.elim
    | succ n ihn =>
      intro σ a w O vals fp hl ho b k cs
      obtain ⟨e, a1, w1, ⟨ex, σ1, O1, vals1, fp1, he, hq, ho1, hm1⟩, harr⟩ := ih hl ho b (.inLoop d :: k) cs
      cases e with
      | normal =>
        simp only [exOf, Option.some.injEq] at he; subst he
        obtain ⟨fp2, ho2, hs2⟩ := ho1.restrict ks
        obtain ⟨e2, a2, w2, hq2, harr2⟩ := ihn _ _ _ _ _ _ hq ho2 b k cs
        exact ⟨e2, a2, w2, Lift.pre (hm1.shrink hs2) hq2, .of_steps (Steps.trans harr (.one step_inLoop)) harr2⟩
      | exit i =>
        simp only [exOf, Option.some.injEq] at he; subst he
        exact ⟨.exit i, a1, w1, ⟨_, _, _, _, _, rfl, hq, ho1, hm1⟩, .pass (x := .inLoop d) rfl (fun _ _ => .inl (by simp)) harr⟩
      | ret =>
        simp only [exOf, Option.some.injEq] at he; subst he
        exact ⟨.ret, a1, w1, ⟨_, _, _, _, _, rfl, hq, ho1, hm1⟩, .pass (x := .inLoop d) rfl (fun _ _ => .inl (by simp)) harr⟩
      | goto l => simp [exOf] at he
      | panic ch => simp [exOf] at he
      | outgrown => simp [exOf] at he
  intro b k cs
  obtain ⟨e, a', w', hq, harr⟩ := key n σ a w O vals fp hl ho b k cs
  exact ⟨e, a', w', hq, .of_steps (.one step_loop) harr⟩

theorem awp_sound {P : Program} {N : Nat} {gv : Nat → Value} : ∀ (c : ACode) {d : Code}, fitsC P N c d = true → ∀ {Q : Ex → St → Prop} {σ a w O vals fp}, awp P c Q σ → Ok σ a w O gv N vals fp →
    d.wp P (Lift w O gv N fp Q) a w := by
  intro c
  induction c with
  | skip =>
    intro d hf Q σ a w O vals fp h ho
    cases d <;> simp [fitsC] at hf
    exact wp_skip ⟨_, _, _, _, _, rfl, h, ho, Mv.refl _ _ _⟩
  | exit i =>
    intro d hf Q σ a w O vals fp h ho
    cases d <;> simp [fitsC] at hf
    subst hf
    exact wp_exit ⟨_, _, _, _, _, rfl, h, ho, Mv.refl _ _ _⟩
  | ret =>
    intro d hf Q σ a w O vals fp h ho
    cases d <;> simp [fitsC] at hf
    exact wp_ret ⟨_, _, _, _, _, rfl, h, ho, Mv.refl _ _ _⟩
  | reg gs =>
    intro d hf Q σ a w O vals fp h ho
    cases d with
    | region id ops draw =>
      cases draw with
      | true => simp [fitsC] at hf
      | false =>
        exact wp_region_list (ops_sound hf ho h fun σ' a' w' O' vals' fp' hk ho' hm => ⟨_, _, _, _, _, rfl, hk, ho', hm⟩)
    | _ => simp [fitsC] at hf
  | dreg pre post =>
    intro d hf Q σ a w O vals fp h ho
    cases d with
    | region id ops draw =>
      cases draw with
      | false => simp [fitsC] at hf
      | true =>
        exact dreg_sound hf ho h fun σ' a' w' O' vals' fp' hk ho' hm => ⟨_, _, _, _, _, rfl, hk, ho', hm⟩
    | _ => simp [fitsC] at hf
  | seq x y ih1 ih2 =>
    intro d hf Q σ a w O vals fp h ho
    cases d <;> simp [fitsC] at hf
    refine wp_seq (wp_mono (ih1 hf.1 h ho) ?_)
    rintro e a' w' ⟨ex, σ', O', vals', fp', he, hq, ho', hm⟩
    cases e <;> simp [exOf] at he <;> subst he
    · exact wp_mono (ih2 hf.2 hq ho') fun _ _ _ => Lift.pre hm
    · exact ⟨_, _, _, _, _, rfl, hq, ho', hm⟩
    · exact ⟨_, _, _, _, _, rfl, hq, ho', hm⟩
  | cond x t e ih1 ih2 =>
    intro d hf Q σ a w O vals fp h ho
    cases d <;> simp [fitsC] at hf
    obtain ⟨⟨hx, ht⟩, he⟩ := hf
    simp only [awp] at h
    split at h
    case h_2 => exact h.elim
    rename_i b hb
    have hr := evalX_rel ho hx
    rw [hb] at hr
    refine wp_cond_split (t := b) (by cases hr with | val _ hr _ => exact rd_leaf_bool hr) (fun hb => ih1 ht (h.1 hb) ho) (fun hb => ih2 he (h.2 hb) ho)
  | block i c ih =>
    intro d hf Q σ a w O vals fp h ho
    cases d <;> simp [fitsC] at hf
    obtain ⟨rfl, hc⟩ := hf
    refine wp_block (wp_mono (ih hc h ho) ?_)
    rintro e a' w' ⟨ex, σ', O', vals', fp', he, hq, ho', hm⟩
    cases e <;> simp [exOf] at he <;> subst he
    · exact ⟨_, _, _, _, _, rfl, hq, ho', hm⟩
    · rename_i i
      simp only [Exit.inBlock]
      simp only [blockQ] at hq
      split at hq
      · rename_i hi
        rw [if_pos hi]; exact ⟨_, _, _, _, _, rfl, hq, ho', hm⟩
      · rename_i hi
        rw [if_neg hi]; exact ⟨_, _, _, _, _, rfl, hq, ho', hm⟩
    · exact ⟨_, _, _, _, _, rfl, hq, ho', hm⟩
  | loop c ih =>
    intro d hf Q σ a w O vals fp h ho
    cases d <;> simp [fitsC] at hf
    obtain ⟨ks, n, hl⟩ := h
    obtain ⟨fp2, ho2, hs2⟩ := ho.restrict ks
    refine wp_mono (loop_sound (ks := ks) (fun h1 h2 => ih hf h1 h2) n _ a w O vals fp2 hl ho2) ?_
    intro e a' w' hh
    exact (Lift.pre ((Mv.refl _ _ _).shrink hs2) hh).less
  | cut c ih =>
    intro d hf Q σ a w O vals fp h ho
    have hf' : fitsC P N c d = true := by cases d <;> exact hf
    exact wp_mono (ih hf' h ho) fun e a' w' hh => hh.less
  | frz ss c ih =>
    intro d hf Q σ a w O vals fp h ho
    have hf' : fitsC P N c d = true := by cases d <;> exact hf
    obtain ⟨O2, fp2, ho2, hm2⟩ := frzS_ok ss ho
    exact wp_mono (ih hf' h ho2) fun e a' w' hh => Lift.pre hm2 hh
  | drop ds c ih =>
    intro d hf Q σ a w O vals fp h ho
    have hf' : fitsC P N c d = true := by cases d <;> exact hf
    obtain ⟨fp2, ho2, hs2⟩ := ho.drop ds
    exact wp_mono (ih hf' h ho2) fun e a' w' hh => Lift.pre ((Mv.refl _ _ _).shrink hs2) hh

end Go.Proofs.Ythcnmahjhahafaa.Ax
