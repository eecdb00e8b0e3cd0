/-
  The heads of a region in every order.
-/
import Derived.Test.YthcnmahjhahafaaAxS
namespace Go.Proofs.Ythcnmahjhahafaa.Ax
open Go

theorem RelL.noref {w O L vals d} (hd : L d = .top) : ∀ {as vs}, RelL w O L vals as vs → mapRL (killG d 0) as = as := by
  intro as vs h
  have hne : ∀ {r : Nat} {V : Ax.V}, L r = .val V → killG d 0 r = fun _ => some r := by
    intro r V hr
    funext l
    have : r ≠ d := by rintro rfl; rw [hd] at hr; cases hr
    simp [killG, this]
  induction h with
  | nil => rfl
  | top _ ih => simp [mapRL, A.mapR, ih]
  | val _ _ _ ih => simp [mapRL, A.mapR, ih]
  | ref hL _ _ _ ih => simp [mapRL, A.mapR, ih, hne hL]
  | addr hL _ _ _ _ _ ih => simp [mapRL, A.mapR, ih, hne hL]
  | fad _ _ _ _ ih => simp [mapRL, A.mapR, ih]
  | agg _ _ ih1 ih2 => simp [mapRL, A.mapR, ih1, ih2]
  | clo _ _ ih1 ih2 => simp [mapRL, A.mapR, ih1, ih2]

theorem Sim.noref {w O L vals fp d} (h : Sim w O L vals fp) (hd : L d = .top) (s : Nat) : (L s).mapR (killG d 0) = L s := by
  cases hs : L s with
  | val v => rfl
  | _ =>
    have := RelL.noref hd (h.rel s (by intro V hV; rw [hs] at hV; cases hV))
    rw [hs] at this
    simpa [mapRL] using this

/-- the state on the way: the heads that are listed -/
abbrev mid (listed : Array Bool) (H σ0 : St) : St := over (fun i => listed.getD i false) 0 H ++ σ0

section
variable {P : Program} {ops : Array Oper} {gv : Nat → Value} {N : Nat} {Q : Exit → Act → World → Prop} {σ0 : St} {pre : List (G × List Nat)} {H : St}

theorem befT_len : ∀ {os : List Oper} {acc}, (befT os acc).length = acc.length + os.length := by
  intro os
  induction os with
  | nil => intro acc; simp [befT]
  | cons o r ih => intro acc; simp only [befT]; rw [ih]; simp; omega

theorem befT_pre : ∀ {os : List Oper} {acc} {i}, i < acc.length → (befT os acc)[i]? = acc[i]? := by
  intro os
  induction os with
  | nil => intro acc i _; rfl
  | cons o r ih =>
    intro acc i h
    simp only [befT]
    rw [ih (by simp; omega), List.getElem?_append_left h]

/-- what the edges say of one operation, out of the table -/
theorem befT_at : ∀ {os : List Oper} {acc : List (List Nat)} {i : Nat} {o : Oper} {j : Nat}, os[i]? = some o → j ∈ (befT os acc).getD (acc.length + i) [] → (∀ e ∈ o.after, Region.binds .any e = true → e.on < acc.length + i) →
    ∃ e ∈ o.after, Region.binds .any e = true ∧ (j = e.on ∨ j ∈ (befT os acc).getD e.on []) := by
  intro os
  induction os with
  | nil => intro acc i o j h; simp at h
  | cons o' r ih =>
    intro acc i o j h hj he
    cases i with
    | zero =>
      simp at h; subst h
      simp only [befT, Nat.add_zero] at hj
      rw [List.getD_eq_getElem?_getD, befT_pre (by simp)] at hj
      simp at hj
      obtain ⟨e, ⟨h1, h2⟩, h3⟩ := hj
      refine ⟨e, h1, h2, h3.imp id fun h3 => ?_⟩
      have hlt := he e h1 h2
      simp only [Nat.add_zero] at hlt
      simp only [befT]
      rw [List.getD_eq_getElem?_getD, befT_pre (by simp; omega), List.getElem?_append_left hlt]
      simpa using h3
    | succ i =>
      simp only [befT] at hj ⊢
      have h' : r[i]? = some o := by simpa using h
      have := ih (acc := acc ++ [((o'.after.toList.filter (Region.binds .any ·)).flatMap fun e => e.on :: acc.getD e.on []).eraseDups]) (j := j) h' (by simpa [Nat.add_assoc, Nat.add_comm 1 i] using hj) (by
        intro e h1 h2
        have := he e h1 h2
        simp; omega)
      exact this

/-- what is ready has all before it listed -/
theorem bef_listed {n : Nat} {listed : Array Bool} (inv : HeadInv .any ops n listed) (hlt : ∀ (i : Nat) (o : Oper), ops[i]? = some o → ∀ e ∈ o.after, Region.binds .any e = true → e.on < i) :
    ∀ (i : Nat) (o : Oper), ops[i]? = some o → (∀ e ∈ o.after, Region.binds .any e = true → listed.getD e.on false = true) → ∀ j ∈ (befs ops).getD i [], listed.getD j false = true := by
  intro i
  induction i using Nat.strongRecOn with
  | _ i ih =>
    intro o ho hall j hj
    obtain ⟨e, he, hb, h⟩ := befT_at (os := ops.toList) (acc := []) (i := i) (o := o) (j := j) (by simpa using ho) (by simpa [befs] using hj) (by simpa using hlt i o ho)
    rcases h with rfl | h
    · exact hall e he hb
    · have hl := hall e he hb
      have hon := hlt i o ho e he hb
      have hs : e.on < ops.size := by have := (Array.getElem?_eq_some_iff.1 ho).1; omega
      have ho2 : ops[e.on]? = some ops[e.on] := by simp [hs]
      exact ih e.on hon _ ho2 (fun e' he' hb' => inv.closed e.on _ ho2 hl e' he' hb') j h

theorem hidesOk_at {T : List (List Nat)} : ∀ {pre : List (G × List Nat)} {k i : Nat} {x : G} {hide : List Nat}, hidesOk ops T k pre = true → pre[i]? = some (x, hide) →
    ∀ j, j < k + i → j ∈ T.getD (k + i) [] ∨ ∃ d, (ops[j]?).bind (fun o : Oper => o.dst) = some d ∧ hide.contains d = true := by
  intro pre
  induction pre with
  | nil => intro k i x hide _ h; simp at h
  | cons e r ih =>
    intro k i x hide h hp j hj
    obtain ⟨y, hd⟩ := e
    simp only [hidesOk, Bool.and_eq_true] at h
    cases i with
    | zero =>
      simp at hp; obtain ⟨rfl, rfl⟩ := hp
      have := List.all_eq_true.1 h.1 j (List.mem_range.2 (by simpa using hj))
      simp only [Bool.or_eq_true] at this
      rcases this with h1 | h1
      · exact .inl (by simpa using h1)
      · right
        split at h1
        · rename_i d hd; exact ⟨d, hd, h1⟩
        · cases h1
    | succ i =>
      have := ih (k := k + 1) (i := i) h.2 (by simpa using hp) j (by omega)
      rwa [show k + 1 + i = k + (i + 1) by omega] at this

theorem mid_le {_n i : Nat} {listed : Array Bool} {x : G} {hide : List Nat} {d : Nat} {r : A} (hH : Heads P ops gv N Q σ0 pre H) (hT : hidesOk ops (befs ops) 0 pre = true)
    (hp : pre[i]? = some (x, hide)) (_hi : (H : List (Nat × A))[i]? = some (d, r)) (hb : ∀ j ∈ (befs ops).getD i [], listed.getD j false = true) : Le (hideS hide ((H : List (Nat × A)).take i) ++ σ0) (mid listed H σ0) := by
  intro s
  rw [look_append, mid, look_append]
  by_cases hk : hasKey s (hideS hide ((H : List (Nat × A)).take i)) = true
  · rw [if_pos hk]
    rw [hideS_key] at hk
    simp only [Bool.and_eq_true, Bool.not_eq_true'] at hk
    rw [hideS_look _ _ _ hk.2]
    obtain ⟨j, q, hj⟩ := get_key hk.1
    have hji : j < i := by
      have := (List.getElem?_eq_some_iff.1 hj).1
      simp at this; omega
    have hj' : (H : List (Nat × A))[j]? = some (s, q) := by
      rw [List.getElem?_take, if_pos hji] at hj; exact hj
    have hl : listed.getD j false = true := by
      rcases hidesOk_at hT hp j (by omega) with h1 | ⟨d', h1, h2⟩
      · exact hb j (by simpa using h1)
      · rw [hH.dst j s q hj'] at h1
        cases h1
        rw [h2] at hk; cases hk.2
    have ho := over_at (S := fun i => listed.getD i false) (k := 0) hH.kn hj'
    simp only [Nat.zero_add] at ho
    rw [ho.1, hl]
    right
    simp only [if_true]
    rw [ho.2 hl]
    have : look ((H : List (Nat × A)).take i) s = q := by
      have hkt : ∀ (A B : St), kn (A ++ B) = true → kn A = true := by
        intro A B
        induction A with
        | nil => intro _; rfl
        | cons e r ih =>
          obtain ⟨k, a⟩ := e
          intro h
          simp only [List.cons_append, kn, Bool.and_eq_true, Bool.not_eq_true'] at h ⊢
          refine ⟨?_, ih h.2⟩
          have := h.1
          cases hkr : hasKey k r with
          | false => rfl
          | true =>
            obtain ⟨m, q, hm⟩ := get_key hkr
            have : hasKey k (r ++ B) = true := key_get (i := m) (r := q) (by rw [List.getElem?_append_left (List.getElem?_eq_some_iff.1 hm).1]; exact hm)
            rw [this] at h; exact absurd h.1 (by simp)
      exact kn_look (hkt _ ((H : List (Nat × A)).drop i) (by rw [List.take_append_drop]; exact hH.kn)) hj
    exact this.symm
  · rw [if_neg hk]
    by_cases h2 : hasKey s H = true
    · left
      obtain ⟨j, q, hj⟩ := get_key h2
      exact hH.top _ (List.mem_of_getElem? hj)
    · right
      have := over_no (S := fun i => listed.getD i false) (k := 0) (s := s) (H := H) (by simpa using h2)
      rw [this]; rfl

theorem mid_put {i : Nat} {listed : Array Bool} {d : Nat} {r : A} (hH : Heads P ops gv N Q σ0 pre H) (hi : (H : List (Nat × A))[i]? = some (d, r)) (hsz : i < listed.size) (hun : listed.getD i false = false)
    (hr : r.mapR (killG d 0) = r) {w O vals fp} (hs : Sim w O (look (mid listed H σ0)) vals fp) :
    look (puts d r (mid listed H σ0)) = look (mid (listed.setIfInBounds i true) H σ0) := by
  have hd : look (mid listed H σ0) d = .top := by
    rw [mid, look_append]
    have := over_at (S := fun i => listed.getD i false) (k := 0) hH.kn hi
    simp only [Nat.zero_add] at this
    rw [this.1, hun]
    exact hH.top _ (List.mem_of_getElem? hi)
  rw [look_puts, hr]
  funext s
  simp only [upF, setF]
  by_cases hsd : s = d
  · subst hsd
    rw [if_pos rfl, mid, look_append]
    have := over_at (S := fun j => (listed.setIfInBounds i true).getD j false) (k := 0) hH.kn hi
    simp only [Nat.zero_add] at this
    have h2 : (listed.setIfInBounds i true).getD i false = true := by simp [hsz]
    rw [this.1, h2, if_pos rfl, this.2 h2]
  · rw [if_neg hsd, if_neg hsd, hs.noref hd, mid, mid, look_append, look_append]
    by_cases hk : hasKey s H = true
    · obtain ⟨j, q, hj⟩ := get_key hk
      have hji : i ≠ j := by
        rintro rfl
        rw [hi] at hj; simp at hj; exact hsd hj.1.symm
      have h1 := over_at (S := fun j => listed.getD j false) (k := 0) hH.kn hj
      have h2 := over_at (S := fun j => (listed.setIfInBounds i true).getD j false) (k := 0) hH.kn hj
      simp only [Nat.zero_add] at h1 h2
      rw [getD_set_ne false hji] at h2
      rw [h1.1, h2.1]
      by_cases hl : listed.getD j false = true
      · rw [if_pos hl, if_pos hl, h1.2 hl, h2.2 hl]
      · rw [if_neg hl, if_neg hl]
    · have hk' : hasKey s H = false := by simpa using hk
      rw [over_no hk', over_no hk']; rfl

def cnt (n : Nat) (listed : Array Bool) : Nat := ((List.range n).filter fun i => !listed.getD i true).length

theorem cnt_set {n i : Nat} {listed : Array Bool} (hi : i < n) (hsz : i < listed.size) (hun : listed.getD i true = false) : cnt n listed = cnt n (listed.setIfInBounds i true) + 1 := by
  unfold cnt
  have h1 : ∀ (l : List Nat), l.Nodup → i ∈ l → (l.filter fun j => !listed.getD j true).length = (l.filter fun j => !(listed.setIfInBounds i true).getD j true).length + 1 := by
    intro l
    induction l with
    | nil => intro _ h; cases h
    | cons x r ih =>
      intro hn hm
      have hn' := List.nodup_cons.1 hn
      by_cases hx : x = i
      · subst hx
        have h2 : (listed.setIfInBounds x true).getD x true = true := by simp [hsz]
        have h3 : (r.filter fun j => !listed.getD j true) = (r.filter fun j => !(listed.setIfInBounds x true).getD j true) := by
          apply List.filter_congr
          intro j hj
          rw [getD_set_ne true (by rintro rfl; exact hn'.1 hj)]
        rw [List.filter_cons_of_pos (by simp only [hun]; rfl), List.filter_cons_of_neg (by simp only [h2]; simp), h3]
        rfl
      · have hm' : i ∈ r := by cases hm with
          | head => exact absurd rfl hx
          | tail _ h => exact h
        have := ih hn'.2 hm'
        have h2 : (listed.setIfInBounds i true).getD x true = listed.getD x true := getD_set_ne true (Ne.symm hx)
        by_cases hp : listed.getD x true = true
        · rw [List.filter_cons_of_neg (by simp only [hp]; simp), List.filter_cons_of_neg (by simp only [h2, hp]; simp)]; exact this
        · have hp' : listed.getD x true = false := by simpa using hp
          rw [List.filter_cons_of_pos (by simp only [hp']; rfl), List.filter_cons_of_pos (by simp only [h2, hp']; rfl), List.length_cons, List.length_cons, this]
  exact h1 _ List.nodup_range (List.mem_range.2 hi)

theorem heads_any {n : Nat} (hH : Heads P ops gv N Q σ0 pre H) (hl : H.length = n) (hpl : pre.length = n) (hT : hidesOk ops (befs ops) 0 pre = true)
    (hlt : ∀ (i : Nat) (o : Oper), ops[i]? = some o → ∀ e ∈ o.after, Region.binds .any e = true → e.on < i)
    (hn : n ≤ ops.size) (htail : n < ops.size → Region.sinkB .any ops n = true ∧ Region.chainB .any ops n = true) (g : Nat) :
    ∀ (m : Nat) (listed : Array Bool) (a : Act) (w : World) O vals fp, cnt n listed = m → HeadInv .any ops n listed → Ok (mid listed H σ0) a w O gv N vals fp →
      (∀ listed' a' w' O' vals' fp', HeadInv .any ops n listed' → (∀ i, i < n → listed'.getD i false = true) → Ok (H ++ σ0) a' w' O' gv N vals' fp' → Mv w O (Sof fp) w' O' (Sof fp') → wpAny P .any ops Q g listed' a' w') →
      wpAny P .any ops Q (m + g) listed a w := by
  intro m
  induction m with
  | zero =>
    intro listed a w O vals fp hc inv ho hf
    have hall : ∀ i, i < n → listed.getD i false = true := by
      intro i hi
      cases hu : listed.getD i false with
      | true => rfl
      | false =>
        have h1 : listed.getD i true = false := getD_in (by rw [inv.size]; omega) hu
        have h2 : i ∈ (List.range n).filter fun i => !listed.getD i true := List.mem_filter.2 ⟨List.mem_range.2 hi, by simp only [h1]; rfl⟩
        unfold cnt at hc
        rw [List.length_eq_zero_iff] at hc
        rw [hc] at h2; cases h2
    rw [Nat.zero_add]
    refine hf listed a w O vals fp inv hall ?_ (Mv.refl _ _ _)
    have : over (fun i => listed.getD i false) 0 H = H := over_all fun i hi => by simpa using hall i (by rw [← hl]; exact hi)
    rw [mid, this] at ho; exact ho
  | succ m ih =>
    intro listed a w O vals fp hc inv ho hf
    have hex : ∃ i, i < n ∧ listed.getD i true = false := by
      unfold cnt at hc
      match hm : (List.range n).filter fun i => !listed.getD i true with
      | [] => rw [hm] at hc; simp at hc
      | i :: r =>
        have h2 : i ∈ (List.range n).filter fun i => !listed.getD i true := by rw [hm]; simp
        obtain ⟨h3, h4⟩ := List.mem_filter.1 h2
        exact ⟨i, List.mem_range.1 h3, by simpa using h4⟩
    have hmin : ∃ i, i < n ∧ listed.getD i true = false ∧ ∀ j, j < i → listed.getD j true ≠ false := by
      obtain ⟨i, h1, h2⟩ := hex
      have : ∀ k i, i ≤ k → i < n → listed.getD i true = false → ∃ i, i < n ∧ listed.getD i true = false ∧ ∀ j, j < i → listed.getD j true ≠ false := by
        intro k
        induction k with
        | zero => intro i hk hi hu; exact ⟨i, hi, hu, fun j hj => by omega⟩
        | succ k ih =>
          intro i hk hi hu
          by_cases h : ∃ j, j < i ∧ listed.getD j true = false
          · obtain ⟨j, hj, hju⟩ := h; exact ih j (by omega) (by omega) hju
          · exact ⟨i, hi, hu, fun j hj hju => h ⟨j, hj, hju⟩⟩
      exact this i i (Nat.le_refl _) h1 h2
    rw [show m + 1 + g = (m + g) + 1 by omega]
    refine ⟨fun h0 => ?_, ?_⟩
    · obtain ⟨i, hi, hu, hj⟩ := hmin
      have his : i < ops.size := by omega
      have : i ∈ Region.ready .any ops listed := mem_ready.2 ⟨hu, ops[i], by simp [his], fun e he hb => by
        have h1 := hlt i ops[i] (by simp [his]) e he hb
        have h2 := hj _ h1
        cases hh : listed.getD e.on false with
        | true => rfl
        | false => exact absurd (getD_in (by rw [inv.size]; omega) hh) h2⟩
      rw [h0] at this; cases this
    · intro i hi
      obtain ⟨hun, o, hoi, hall⟩ := mem_ready.1 hi
      have his : i < ops.size := (Array.getElem?_eq_some_iff.1 hoi).1
      have hin : i < n := by
        rcases Nat.lt_or_ge i n with h | h
        · exact h
        · obtain ⟨k, hk, hku⟩ := hex
          have ht := htail (by omega)
          exact absurd hi (tail_waits ht.1 ht.2 (by omega) inv _ k rfl hk hku i h)
      have hHi : (H : List (Nat × A))[i]? = some (H : List (Nat × A))[i] := by simp [hl, hin]
      obtain ⟨d, r, hdr⟩ : ∃ d r, (H : List (Nat × A))[i]? = some (d, r) := ⟨_, _, hHi⟩
      obtain ⟨x, hide, hp⟩ : ∃ x hide, pre[i]? = some (x, hide) := ⟨_, _, by simp [hpl, hin]; rfl⟩
      refine hH.ok i d r x hide hdr hp (mid listed H σ0) a w O vals fp _ (mid_le (_n := n) hH hT hp hdr (bef_listed inv hlt i o hoi hall)) ho ?_
      intro a' w' O' vals' fp' ho' hm'
      have hput := mid_put hH hdr (by rw [inv.size]; omega) (getD_both hun) (hH.idem _ (List.mem_of_getElem? hdr)) ho.sim
      refine ih _ a' w' O' vals' fp' ?_ (inv.set hi hin) (ho'.congr hput) fun l2 a2 w2 O2 vals2 fp2 h1 h2 h3 h4 => hf l2 a2 w2 O2 vals2 fp2 h1 h2 h3 (hm'.trans h4)
      have := cnt_set hin (by rw [inv.size]; omega) hun
      omega

/-- a region whose order is open -/
theorem dreg_sound {id : Nat} {σ : St} {a : Act} {w : World} {O vals fp} {post : List G} {K : St → Prop} (hf : fitsD P N ops pre post = true) (ho : Ok σ a w O gv N vals fp)
    (h : awpPre P σ pre [] fun σ' => awpOps P post K σ') (hn : Next1 w O gv N fp K (Q .normal)) : (Code.region id ops true).wp P Q a w := by
  simp only [fitsD, Bool.and_eq_true] at hf
  obtain ⟨⟨⟨⟨⟨hgs, hmix⟩, hT⟩, hlt⟩, htail⟩, hseq⟩ := hf
  have hlt' : ∀ (i : Nat) (o : Oper), ops[i]? = some o → ∀ e ∈ o.after, Region.binds .any e = true → e.on < i := by
    intro i o hi e he hb
    have hm : (o, i) ∈ ops.toList.zipIdx := by
      rw [List.mem_iff_getElem?]
      exact ⟨i, by simp [List.getElem?_zipIdx, hi]⟩
    have h1 := List.all_eq_true.1 (List.all_eq_true.1 hlt _ hm) e (by simpa using he)
    simp only [Bool.or_eq_true, Bool.not_eq_true', decide_eq_true_eq] at h1
    rcases h1 with h1 | h1
    · rw [hb] at h1; cases h1
    · exact h1
  -- the fits, apart
  have split : ∀ (xs ys : List G) (os : List Oper), fitsGs P N ops (xs ++ ys) os = true → fitsGs P N ops xs (os.take xs.length) = true ∧ fitsGs P N ops ys (os.drop xs.length) = true ∧ xs.length + ys.length = os.length := by
    intro xs
    induction xs with
    | nil =>
      intro ys os h
      refine ⟨by simp [fitsGs], by simpa using h, ?_⟩
      have : ∀ (ys : List G) (os : List Oper), fitsGs P N ops ys os = true → ys.length = os.length := by
        intro ys
        induction ys with
        | nil => intro os h; cases os <;> simp [fitsGs] at h ⊢
        | cons y ys ih => intro os h; cases os with
          | nil => simp [fitsGs] at h
          | cons o os => simp only [fitsGs, Bool.and_eq_true] at h; simp [ih os h.2]
      simpa using this ys os h
    | cons x xs ih =>
      intro ys os h
      cases os with
      | nil => simp [fitsGs] at h
      | cons o os =>
        simp only [List.cons_append, fitsGs, Bool.and_eq_true] at h
        obtain ⟨h1, h2, h3⟩ := ih ys os h.2
        exact ⟨by simp [fitsGs, h.1, h1], by simpa using h2, by simp; omega⟩
  obtain ⟨hpre, hpost, hlen⟩ := split _ _ _ hgs
  simp only [List.length_map, Array.length_toList] at hpre hpost hlen
  have hn' : pre.length ≤ ops.size := by omega
  obtain ⟨H, hH, hHl, hK⟩ := pre_sound (P := P) (ops := ops) (gv := gv) (N := N) (Q := Q) (σ0 := σ) (all := pre) hpre (fun j hj => by
      simp at hj; simp [List.getElem?_take]; omega) pre [] _ h (by simp) (fun j => by simp) ⟨by simp, rfl, by simp, by simp, by simp, by simp⟩
  refine wp_region_any hmix ?_
  have inv0 : HeadInv .any ops pre.length (Array.replicate ops.size false) :=
    ⟨by simp, fun j oj _ hl => (by rw [getD_replicate_false] at hl; cases hl), fun t _ ht => getD_in (by simpa using ht) (getD_replicate_false _ _)⟩
  have hcnt : cnt pre.length (Array.replicate ops.size false) = pre.length := by
    unfold cnt
    rw [List.filter_eq_self.2]
    · simp
    · intro i hi
      have := List.mem_range.1 hi
      simp [show i < ops.size by omega]
  have hheap : Mv w O (Sof fp) { w with drawn := w.drawn + 1 } O (Sof fp) := ⟨rfl, rfl, rfl, Nat.le_refl _, fun _ _ _ => ⟨rfl, .rfl⟩, fun _ h => .inl h⟩
  have ho1 : Ok σ a { w with drawn := w.drawn + 1 } O gv N vals fp := ho.world (fun b hb _ => ⟨rfl, hb⟩) (fun b ⟨s, hs⟩ => ⟨rfl, (ho.sim.fpO s b hs).1⟩)
  have main := heads_any (Q := Q) hH hHl rfl hT hlt' hn' (by
    intro hlt2
    simp only [Bool.or_eq_true, Bool.and_eq_true, decide_eq_true_eq] at htail
    rcases htail with h1 | h1
    · omega
    · exact ⟨h1.1.2, h1.2⟩) (ops.size - pre.length) _ (Array.replicate ops.size false) a { w with drawn := w.drawn + 1 } O vals fp hcnt inv0 (by
      rw [mid, over_none fun i => getD_replicate_false _ _]; exact ho1) (by
      intro l2 a2 w2 O2 vals2 fp2 inv2 hall2 ho2 hm2
      have el : l2 = headsListed ops.size pre.length := by
        have hfold : ∀ (m : Nat) (l : Array Bool), ((List.range m).foldl (fun l i => l.setIfInBounds i true) l).size = l.size ∧ ∀ j, ((List.range m).foldl (fun l i => l.setIfInBounds i true) l).getD j false = ((decide (j < m) && decide (j < l.size)) || l.getD j false) := by
          intro m
          induction m with
          | zero => intro l; simp
          | succ m ih =>
            intro l
            rw [List.range_succ, List.foldl_append]
            simp only [List.foldl_cons, List.foldl_nil]
            obtain ⟨h1, h2⟩ := ih l
            refine ⟨by simp [h1], fun j => ?_⟩
            by_cases hj : m = j
            · subst hj
              by_cases hs : m < l.size
              · have : m < ((List.range m).foldl (fun l i => l.setIfInBounds i true) l).size := by rw [h1]; exact hs
                simp [Array.getD, this, hs]
              · have h3 : ¬ m < ((List.range m).foldl (fun l i => l.setIfInBounds i true) l).size := by rw [h1]; exact hs
                simp [Array.getD, h3, hs]
            · rw [getD_set_ne false hj, h2]
              congr 2
              simp; omega
        obtain ⟨f1, f2⟩ := hfold pre.length (Array.replicate ops.size false)
        apply Array.ext
        · rw [inv2.size]; unfold headsListed; rw [f1]; simp
        · intro j hj1 hj2
          have e1 : l2.getD j false = l2[j] := by simp [Array.getD, hj1]
          have e2 : (headsListed ops.size pre.length).getD j false = (headsListed ops.size pre.length)[j] := by simp [Array.getD, hj2]
          rw [← e1, ← e2]
          unfold headsListed
          rw [f2, getD_replicate_false]
          have hjs : j < ops.size := by rw [← inv2.size]; exact hj1
          by_cases hjn : j < pre.length
          · rw [hall2 j hjn]; simp [hjn, hjs]
          · rw [getD_both (inv2.tail j (by omega) hjs)]; simp [hjn]
      subst el
      have hdl : (ops.toList.drop pre.length).length = ops.size - pre.length := by simp
      rw [← hdl]
      refine wpAny_of_seq (ops.toList.drop pre.length) pre.length _ a2 w2 (fun j => by simp [List.getElem?_drop]) (by rw [hdl]; exact hseq) ?_
      exact ops_sound hpost ho2 hK (Next1.pre hn (hheap.trans hm2)))
  rw [show pre.length + (ops.size - pre.length) = ops.size by omega] at main
  exact main
end
end Go.Proofs.Ythcnmahjhahafaa.Ax
