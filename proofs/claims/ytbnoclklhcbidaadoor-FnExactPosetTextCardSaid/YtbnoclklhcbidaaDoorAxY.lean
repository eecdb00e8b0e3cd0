/-
  From what the walk says of a law to what the statement says of it.
-/
import Derived.Test.YtbnoclklhcbidaaDoorAx4
import Derived.Carry
import Derived.ChangeSame
import Derived.ChangeSlices
import Derived.Deep.Matrix
import Derived.RowKit
import Derived.OpenShut
namespace Go.Proofs.YtbnoclklhcbidaaDoor.Ax
open Go Go.ChangeShapes Go.RowKit Go.Deep

section
variable {H : Type} {enc : TypeId × Value → H} {P : Program} {w : World}

abbrev ints (xs : List Int) : V := slr false 1 vint xs
abbrev rows (xss : List (List Int)) : V := slr false 1 (slr false 1 vint) xss
theorem one_vint : One vint := fun _ => ⟨rfl, rfl⟩
theorem one_ints : One (slr false 1 vint) := fun _ => ⟨rfl, rfl⟩
theorem anyOwn_map {α : Type} (f : α → V) (h : ∀ x, (f x).hasOwn = false) (xs : List α) : anyOwn (xs.map f) = false := by
  induction xs with
  | nil => rfl
  | cons x r ih => simp [anyOwn, h, ih]

theorem rd_ints_mk {O : Nat → Prop} (hO : ∀ b, ¬ O b) {a : Addr} {len cap : Nat} {zs : List Int} (hl : len ≤ cap) (hz : zs.length = cap) (hc : ∀ i, i < zs.length → w.cell? (a.add i) = some (.int .i64 (zs.getD i 0))) :
    RdL w O [ints (zs.take len)] [.slice (some a) len cap] [] := by
  have rdl : ∀ xs : List Int, RdL w O (xs.map vint) (xs.map fun n => Value.int .i64 n) [] := by
    intro xs
    induction xs with
    | nil => exact .nil
    | cons x r ih => exact .leaf (.int _ _) ih
  by_cases h0 : cap = 0
  · subst h0
    have : len = 0 := by omega
    subst this
    exact .leaf (show Leaf (V.sl false 1 (([] : List Int).map vint)) _ from Leaf.empt 1 a) .nil
  · obtain ⟨b, off, spot⟩ := a
    have h1 := hc 0 (by omega)
    have hs : spot = none := by
      cases spot with
      | none => rfl
      | some s => simp [World.cell?, Addr.add] at h1; split at h1 <;> simp_all
    subst hs
    have hlen : (zs.take len).length = len := by rw [List.length_take]; omega
    have hd := Hdr.sl false 1 ((zs.take len).map vint) b off cap (by intro x hx; obtain ⟨n, _, rfl⟩ := List.mem_map.1 hx; rfl) (by rw [List.length_map, hlen]; exact hl)
    rw [flat_one one_vint, List.length_map, hlen] at hd
    refine .fblk (vch := (zs.take len).map fun n => Value.int .i64 n) hd ?_ ⟨.inr (hO b), anyOwn_map _ (fun _ => rfl) _⟩ (rdl _) .nil
    intro i hi
    have hi' : i < len := by rw [List.length_map, hlen] at hi; exact hi
    have := hc i (by omega)
    rw [add_none] at this
    rw [this]
    simp [List.getD_eq_getElem?_getD, hi', show i < zs.length by omega]

theorem rd_vals {O : Nat → Prop} {f : Nat → V} {g : Nat → Value} : ∀ n, (∀ i, i < n → RdL w O [f i] [g i] []) → RdL w O ((List.range n).map f) ((List.range n).map g) [] := by
  intro n
  induction n with
  | zero => intro _; exact .nil
  | succ n ih =>
    intro h
    rw [List.range_succ, List.map_append, List.map_append]
    exact (ih fun i hi => h i (by omega)).append (by simpa using h n (by omega))

/-- an argument of rows -/
theorem open_rows {O : Nat → Prop} (hO : ∀ b, ¬ O b) {base : Nat} {held : Bool} {t e q : TypeId} {fuel : Nat} {cs : List Value} {x : DataW H × List MemPlace} (ht : P.underlying t = some (.slice e)) (he : P.underlying e = some (.slice q))
    (hq : P.underlying q = some (.int .i64)) (ce : P.cellsOf e = 1) (cq : P.cellsOf q = 1) (h : DataW.trod enc P w base (fun _ => true) held fuel t cs = some x) :
    ∃ (v : Value) (xss : List (List Int)), cs = [v] ∧ xss.length ≤ maxLen ∧ (∀ r ∈ xss, r.length ≤ maxLen) ∧ RdL w O [rows xss] [v] [] := by
  rcases open_int_rows ht he hq ce cq h with ⟨rfl, _⟩ | ⟨a, len, cap, A, L, C, Z, rfl, _, hl, hm, _, hr⟩
  · exact ⟨_, [], rfl, by simp, by simp, .leaf (show Leaf (V.sl false 1 (([] : List (List Int)).map (slr false 1 vint))) _ from Leaf.nils 1) .nil⟩
  · refine ⟨_, (List.range len).map fun r => (Z r).take (L r), rfl, by simpa using Nat.le_trans hl hm, ?_, ?_⟩
    · intro r hr'
      obtain ⟨k, hk, rfl⟩ := List.mem_map.1 hr'
      have hk' := List.mem_range.1 hk
      obtain ⟨_, h1, h2, h3, _⟩ := hr k (by omega)
      rw [List.length_take]; omega
    · have each : ∀ i, i < len → RdL w O [ints ((Z i).take (L i))] [.slice (A i) (L i) (C i)] [] := by
        intro i hi
        obtain ⟨_, h1, h2, h3, h4, h5, h6⟩ := hr i (by omega)
        cases hA : A i with
        | none =>
          have hc0 := h5 hA
          have hl0 : L i = 0 := by omega
          rw [hc0, hl0]
          exact .leaf (show Leaf (V.sl false 1 (([] : List Int).map vint)) _ from Leaf.nils 1) .nil
        | some a' => exact rd_ints_mk hO h1 h3 (fun c hc => (h6 a' hA).2 c (by omega))
      by_cases h0 : cap = 0
      · subst h0
        obtain rfl : len = 0 := by omega
        exact .leaf (show Leaf (V.sl false 1 (([] : List (List Int)).map (slr false 1 vint))) _ from Leaf.empt 1 a) .nil
      · obtain ⟨b, off, spot⟩ := a
        have hs : spot = none := by
          have h1 := (hr 0 (by omega)).1
          cases spot with
          | none => rfl
          | some s => simp [World.cell?, Addr.add] at h1; split at h1 <;> simp_all
        subst hs
        have hlen : ((List.range len).map fun r => (Z r).take (L r)).length = len := by simp
        have hd := Hdr.sl false 1 (((List.range len).map fun r => (Z r).take (L r)).map (slr false 1 vint)) b off cap (by intro x hx; obtain ⟨n, _, rfl⟩ := List.mem_map.1 hx; rfl) (by rw [List.length_map, hlen]; exact hl)
        rw [flat_one one_ints, List.length_map, hlen] at hd
        refine .fblk (vch := (List.range len).map fun i => Value.slice (A i) (L i) (C i)) hd ?_ ⟨.inr (hO b), anyOwn_map _ (fun _ => rfl) _⟩ ?_ .nil
        · intro i hi
          have hi' : i < len := by simpa using hi
          have := (hr i (by omega)).1
          rw [add_none] at this
          rw [this]
          simp [hi']
        · rw [List.map_map]
          exact rd_vals len each

/-- an argument: a struct of one field, of rows -/
theorem open_rows1 {O : Nat → Prop} (hO : ∀ b, ¬ O b) {base : Nat} {held : Bool} {t u e q : TypeId} {nm : Field} {v : Value} {d : DataW H} {ps : List MemPlace} (hs : P.underlying u = some (.struct #[nm])) (hoff : nm.offset = 0) (hty : nm.type = t)
    (hsz : P.cellsOf u = 1) (htz : P.cellsOf t = 1) (ht : P.underlying t = some (.slice e)) (he : P.underlying e = some (.slice q)) (hq : P.underlying q = some (.int .i64)) (ce : P.cellsOf e = 1) (cq : P.cellsOf q = 1)
    {r : Reach} {b0 : Nat} (hval : Value.okWide P w r b0 u v) (h : DataW.Trod enc P w base (fun _ => true) held u v d ps) :
    ∃ (xss : List (List Int)), xss.length ≤ maxLen ∧ (∀ r ∈ xss, r.length ≤ maxLen) ∧ RdL w O [V.agg [rows xss]] [v] [] := by
  obtain ⟨fuel, h⟩ := h
  obtain ⟨y0, n, hx, hl, hf⟩ := trod_struct1 hs h
  rw [hoff, hty, htz] at hf
  obtain ⟨v0, xss, hcs, h1, h2, h3⟩ := open_rows hO ht he hq ce cq hf
  refine ⟨xss, h1, h2, ?_⟩
  obtain ⟨cs, rfl, hcz⟩ := Go.WideShapes.okWide_struct hs hval
  have hl' : cs.toList.length = 1 := by simpa [Value.cells, hsz] using hl
  obtain ⟨z, hz⟩ := List.length_eq_one_iff.1 hl'
  have hcl : (Value.agg cs).cells.toList = cs.toList := rfl
  rw [hcl, hz] at hcs
  simp at hcs
  subst hcs
  have hca : cs = [z].toArray := by rw [← hz]
  rw [hca]
  exact RdL.grp (fp1 := []) (fp2 := []) (.agg _ _) h3 .nil

/-- an argument: numbers -/
theorem open_ints1 {O : Nat → Prop} (hO : ∀ b, ¬ O b) {base : Nat} {held : Bool} {t q : TypeId} {v : Value} {d : DataW H} {ps : List MemPlace} (ht : P.underlying t = some (.slice q)) (hq : P.underlying q = some (.int .i64)) (cq : P.cellsOf q = 1)
    {r : Reach} {b0 : Nat} (hval : Value.okWide P w r b0 t v) (h : DataW.Trod enc P w base (fun _ => true) held t v d ps) : ∃ (xs : List Int), xs.length ≤ maxLen ∧ RdL w O [ints xs] [v] [] := by
  obtain ⟨fuel, h⟩ := h
  have hv : v.cells.toList = [v] := by
    obtain ⟨a, b, c, rfl⟩ := Go.WideShapes.okWide_slice ht hval
    rfl
  rw [hv] at h
  rcases open_ints ht hq cq h with ⟨e, _⟩ | ⟨a, len, cap, zs, e, _, h1, h2, h3, _, h4, _⟩
  · cases e
    exact ⟨[], by simp, .leaf (show Leaf (V.sl false 1 (([] : List Int).map vint)) _ from Leaf.nils 1) .nil⟩
  · cases e
    have h3' : zs.length = cap := by simpa using h3
    exact ⟨zs.take len, by rw [List.length_take]; omega, rd_ints_mk hO h1 h3' h4⟩

/-- an argument: a number -/
theorem open_int1 {O : Nat → Prop} {base : Nat} {held : Bool} {t : TypeId} {v : Value} {d : DataW H} {ps : List MemPlace} (ht : P.underlying t = some (.int .i64)) {r : Reach} {b0 : Nat} (hval : Value.okWide P w r b0 t v)
    (h : DataW.Trod enc P w base (fun _ => true) held t v d ps) : ∃ n : Int, RdL w O [vint n] [v] [] := by
  obtain ⟨n, rfl, _, _, _⟩ := open_int ht hval h
  exact ⟨n, .leaf (.int _ _) .nil⟩

theorem trodAll_stays {W W' : World} (hl : laidOutB P = true) {sp : Nat → Bool} (hb : Below W.heap.size W W') : ∀ {ts : List TypeId} {vs : List Value} {ds : List (DataW H)} {ps : List MemPlace}, (∀ t ∈ ts, P.readableRec t = true ∧ t < P.types.size) →
    DataW.TrodAll enc P W 0 (fun _ => true) true ts vs ds ps → (∀ x ∈ ps, x.block < W.heap.size ∧ sp x.block = true) → DataW.TrodAll enc P W' 0 sp true ts vs ds ps := by
  intro ts
  induction ts with
  | nil => intro vs ds ps _ h _; obtain ⟨rfl, rfl, rfl⟩ := trodAll_nil h; exact trodAll_mk0
  | cons t ts ih =>
    intro vs ds ps hr h hs
    obtain ⟨v, vs', d, ds', p, q, rfl, rfl, rfl, h0, h1⟩ := trodAll_cons h
    refine trodAll_cons_mk ?_ (ih (fun t ht => hr t (by simp [ht])) h1 fun x hx => hs x (by simp [hx]))
    exact WideElems.Trod_stays hl (hr t (by simp)).1 (hr t (by simp)).2 h0 (fun x hx => hb.same (hs x (by simp [hx])).1) (fun x hx => (hs x (by simp [hx])).2)

/-- what every law's statement says of a call, out of what the walk says -/
theorem law_post {f : Nat} {fn : Func} {s : ChangeSpec} {W : World} {args : Array Value} {ds gs : List (DataW H)} {before : List MemPlace} {vs : List V} (hl : laidOutB P = true) (hv : s.vars = [])
    (hread : ∀ t ∈ fn.params.toList, P.readableRec t = true ∧ t < P.types.size) {tb : TypeId} (hrt : fn.resultTypes = #[tb]) (htb : P.underlying tb = some .bool)
    (hfn : ∀ ds : List (DataW H), ds.length = fn.params.size → s.fn H (ds ++ []) = { results := [.lit (.bool true)], args := ds })
    (hW : DataW.Whole enc P fn.params.toList s.vars false W args.toList ds gs before) (hrd : RdL W (fun _ => False) vs args.toList []) (hret : Ret P f vs (.bool true)) :
    Calls P f args W fun e W' => ∃ v, e = .returned v ∧ s.post enc P fn false true false false W args v W' := by
  have hc := (hret W (fun _ => False) args.toList [] hrd (by simp)).2
  have ea : args.toList.toArray = args := by simp
  rw [ea] at hc
  refine hc.mono ?_
  rintro e W' ⟨res, outs, rv, O', fpr, fpo, rfl, rfl, hr, _, _, hm⟩
  have hrv := rd_leaf_bool hr
  subst hrv
  have hB : Below W.heap.size W W' := ⟨hm.os, hm.tape, hm.output, hm.size, fun k hk => (hm.same k hk (by simp)).1⟩
  refine ⟨_, rfl, ?_⟩
  have hW' := hW
  obtain ⟨p, q, hA, hV, rfl, hfz, hnd⟩ := hW
  rw [hv] at hV
  obtain ⟨rfl, rfl⟩ := trodVars_none hV
  have hlen : ds.length = fn.params.size := by
    have key : ∀ {ts : List TypeId} {vs : List Value} {ds : List (DataW H)} {ps : List MemPlace}, DataW.TrodAll enc P W 0 (fun _ => true) true ts vs ds ps → ds.length = ts.length := by
      intro ts
      induction ts with
      | nil => intro vs ds ps h; obtain ⟨_, rfl, _⟩ := trodAll_nil h; rfl
      | cons t ts ih => intro vs ds ps h; obtain ⟨_, _, _, _, _, _, _, rfl, _, _, h1⟩ := trodAll_cons h; simp [ih h1]
    simpa using key hA
  have e1 := hfn ds hlen
  refine ⟨ds, [], p ++ [], [], p, [], hW', ?_, ?_, ?_, hB.frame _, fun h => by cases h⟩
  · rw [e1, hrt]
    exact trodAll_cons_mk (shut_bool htb _) trodAll_mk0
  · rw [e1]
    exact trodAll_stays hl hB hread hA fun x hx => ⟨hW'.lt x (by simp [hx]), by simpa using hW'.lt x (by simp [hx])⟩
  · rw [e1, hv]; rfl

end
end Go.Proofs.YtbnoclklhcbidaaDoor.Ax
