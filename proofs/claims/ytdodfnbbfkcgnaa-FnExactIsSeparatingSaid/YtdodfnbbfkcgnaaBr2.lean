/-
  From memory to plain data: an algebra as an argument.
-/
import Derived.Test.YtdodfnbbfkcgnaaAxY
import Derived.Test.YtdodfnbbfkcgnaaTypes
import Derived.Deep.SlicePairs
namespace Go.Proofs.Ytdodfnbbfkcgnaa.Ax
open Go Go.ChangeShapes Go.RowKit Go.Deep

section
variable {H : Type} {enc : TypeId × Value → H} {P : Program} {w : World}
theorem flat_ops (zs : List SOp) : flat (zs.map (rS_Op false)) = zs.flatMap fun p => [vint p.Arity, slr false 1 vint p.Table] := by
  induction zs with
  | nil => rfl
  | cons p r ih => simp only [List.map_cons, flat, List.flatMap_cons, ih]; rfl
theorem own_ops (zs : List SOp) : anyOwn (zs.flatMap fun p => [vint p.Arity, slr false 1 vint p.Table]) = false := by
  induction zs with
  | nil => rfl
  | cons p r ih => simpa [anyOwn, V.hasOwn] using ih
abbrev opV (p : SOp × Value) : List Value := [.int .i64 p.1.Arity, p.2]
theorem rd_ops {O : Nat → Prop} : ∀ (zs : List (SOp × Value)), (∀ p ∈ zs, RdL w O [ints p.1.Table] [p.2] []) → RdL w O ((zs.map (·.1)).flatMap fun p => [vint p.Arity, slr false 1 vint p.Table]) (zs.flatMap opV) [] := by
  intro zs
  induction zs with
  | nil => intro _; exact .nil
  | cons p r ih =>
    intro h
    have h1 := (h p (by simp)).append (ih fun q hq => h q (by simp [hq]))
    exact RdL.leaf (Leaf.int .i64 p.1.Arity) h1
theorem cells_ops {b : Nat} : ∀ (zs : List (SOp × Value)) (off : Nat), (∀ j p, zs[j]? = some p → w.cell? ⟨b, off + 2 * j, none⟩ = some (.int .i64 p.1.Arity) ∧ w.cell? ⟨b, off + 2 * j + 1, none⟩ = some p.2) →
    ∀ i, i < (zs.flatMap opV).length → w.cell? ⟨b, off + i, none⟩ = (zs.flatMap opV)[i]? := by
  intro zs
  induction zs with
  | nil => intro off _ i hi; simp at hi
  | cons p r ih =>
    intro off h i hi
    obtain ⟨h0, h1⟩ := h 0 p rfl
    match i with
    | 0 => simpa using h0
    | 1 => simpa using h1
    | i + 2 =>
      have hi' : i < (r.flatMap opV).length := by
        have e : ((p :: r).flatMap opV).length = (r.flatMap opV).length + 2 := by simp
        omega
      have := ih (off + 2) (fun j q hq => by
        have := h (j + 1) q (by simpa using hq)
        rw [show off + 2 + 2 * j = off + 2 * (j + 1) by omega]
        exact this) i hi'
      rw [show off + (i + 2) = off + 2 + i by omega, this]
      simp

theorem open_ints0 {O : Nat → Prop} (hO : ∀ b, ¬ O b) {base : Nat} {held : Bool} {t q : TypeId} {fuel : Nat} {v : Value} {x : DataW H × List MemPlace} (ht : P.underlying t = some (.slice q)) (hq : P.underlying q = some (.int .i64)) (cq : P.cellsOf q = 1)
    (h : DataW.trod enc P w base (fun _ => true) held fuel t [v] = some x) : ∃ (xs : List Int), xs.length ≤ maxLen ∧ RdL w O [ints xs] [v] [] := by
  rcases open_ints ht hq cq h with ⟨e, _⟩ | ⟨a, len, cap, zs, e, _, h1, h2, h3, _, h4, _⟩
  · cases e
    exact ⟨[], by simp, .leaf (show Leaf (V.sl false 1 (([] : List Int).map vint)) _ from Leaf.nils 1) .nil⟩
  · cases e
    have h3' : zs.length = cap := by simpa using h3
    exact ⟨zs.take len, by rw [List.length_take]; omega, rd_ints_mk hO h1 h3' h4⟩

theorem open_ops {O : Nat → Prop} (hO : ∀ b, ¬ O b) {base : Nat} {held : Bool} {t e q i : TypeId} {f0 f1 : Field} {fuel : Nat} {cs : List Value} {x : DataW H × List MemPlace} (ht : P.underlying t = some (.slice e)) (he : P.underlying e = some (.struct #[f0, f1]))
    (ce : P.cellsOf e = 2) (o0 : f0.offset = 0) (o1 : f1.offset = 1) (t0 : f0.type = i) (t1 : f1.type = q) (hi : P.underlying i = some (.int .i64)) (hq : P.underlying q = some (.slice i)) (ci : P.cellsOf i = 1) (cq : P.cellsOf q = 1)
    (h : DataW.trod enc P w base (fun _ => true) held fuel t cs = some x) : ∃ (v : Value) (os : List SOp), cs = [v] ∧ os.length ≤ maxLen ∧ (∀ f ∈ os, f.Table.length ≤ maxLen) ∧ RdL w O [slr false 2 (rS_Op false) os] [v] [] := by
  rcases open_slice_pairs ht he ce o0 o1 (by rw [t0]; exact ci) (by rw [t1]; exact cq) h with ⟨e1, _⟩ | ⟨a, len, cap, m, n, V0, V1, D0, D1, P0, P1, e1, _, hl, hm, hmm, _, hx⟩
  · subst e1
    exact ⟨_, [], rfl, by simp, by simp, .leaf (show Leaf (V.sl false 2 (([] : List SOp).map (rS_Op false))) _ from Leaf.nils 2) .nil⟩
  · subst e1
    simp only [if_true] at hmm
    subst hmm
    have each : ∀ k, k < m → ∃ p : SOp × Value, (w.cell? (a.add (k * 2)) = some (.int .i64 p.1.Arity) ∧ w.cell? (a.add (k * 2 + 1)) = some p.2) ∧ p.1.Table.length ≤ maxLen ∧ RdL w O [ints p.1.Table] [p.2] [] := by
      intro k hk
      obtain ⟨h1, h2, h3, h4⟩ := hx k hk
      rw [t0] at h3
      rw [t1] at h4
      obtain ⟨n0, z0, _⟩ := DataW.trod_int hi h3
      obtain ⟨xs, h5, h6⟩ := open_ints0 hO hq hi ci h4
      have hz : V0 k = .int .i64 n0 := by simpa using z0
      rw [hz] at h1
      exact ⟨(⟨n0, xs⟩, V1 k), ⟨h1, h2⟩, h5, h6⟩
    obtain ⟨Z, hZ⟩ := choose_lt each
    refine ⟨_, ((List.range len).map Z).map (·.1), rfl, by simpa using Nat.le_trans hl hm, ?_, ?_⟩
    · intro f hf
      simp only [List.mem_map, List.mem_range] at hf
      obtain ⟨p, ⟨k, hk, rfl⟩, rfl⟩ := hf
      exact (hZ k (by omega)).2.1
    by_cases h0 : m = 0
    · subst h0
      obtain rfl : len = 0 := by omega
      exact .leaf (show Leaf (V.sl false 2 (([] : List SOp).map (rS_Op false))) _ from Leaf.empt 2 a) .nil
    · obtain ⟨b, off, spot⟩ := a
      have hs : spot = none := by
        have h1 := (hZ 0 (by omega)).1.1
        cases spot with
        | none => rfl
        | some s => simp [World.cell?, Addr.add] at h1; split at h1 <;> simp_all
      subst hs
      have hlen : (((List.range len).map Z).map (·.1)).length = len := by simp
      have hd := Hdr.sl false 2 ((((List.range len).map Z).map (·.1)).map (rS_Op false)) b off m (by intro x hx; obtain ⟨p, _, rfl⟩ := List.mem_map.1 hx; rfl) (by rw [List.length_map, hlen]; exact hl)
      rw [flat_ops, List.length_map, hlen] at hd
      refine .fblk (vch := ((List.range len).map Z).flatMap opV) hd (cells_ops _ off fun j p hj => ?_) ⟨.inr (hO b), own_ops _⟩ (rd_ops _ fun p hp => ?_) .nil
      · obtain ⟨hj1, hj2⟩ := List.getElem?_eq_some_iff.1 hj
        have hjl : j < len := by simpa using hj1
        have hp : p = Z j := by rw [← hj2]; simp
        subst hp
        have := (hZ j (by omega)).1
        rw [add_none, add_none] at this
        rw [show off + 2 * j = off + j * 2 by omega, show off + j * 2 + 1 = off + (j * 2 + 1) by omega]
        exact this
      · obtain ⟨k, hk, rfl⟩ := List.mem_map.1 hp
        exact (hZ k (by have := List.mem_range.1 hk; omega)).2.2

/-- an argument: an algebra -/
theorem open_algebra1 {O : Nat → Prop} (hO : ∀ b, ¬ O b) {base : Nat} {held : Bool} {u t e q i : TypeId} {g0 g1 f0 f1 : Field} {v : Value} {d : DataW H} {ps : List MemPlace} (hs : P.underlying u = some (.struct #[g0, g1]))
    (p0 : g0.offset = 0) (p1 : g1.offset = 1) (s0 : g0.type = i) (s1 : g1.type = t) (cu : P.cellsOf u = 2) (ct : P.cellsOf t = 1)
    (ht : P.underlying t = some (.slice e)) (he : P.underlying e = some (.struct #[f0, f1]))
    (ce : P.cellsOf e = 2) (o0 : f0.offset = 0) (o1 : f1.offset = 1) (t0 : f0.type = i) (t1 : f1.type = q) (hi : P.underlying i = some (.int .i64)) (hq : P.underlying q = some (.slice i)) (ci : P.cellsOf i = 1) (cq : P.cellsOf q = 1)
    {r : Reach} {b0 : Nat} (hval : Value.okWide P w r b0 u v) (h : DataW.Trod enc P w base (fun _ => true) held u v d ps) :
    ∃ (a : SAlgebra), a.Ops.length ≤ maxLen ∧ (∀ f ∈ a.Ops, f.Table.length ≤ maxLen) ∧ RdL w O [rS_Algebra false a] [v] [] := by
  obtain ⟨fuel, h⟩ := h
  obtain ⟨y0, y1, n, hx, hl, h0, h1⟩ := trod_struct2 hs h
  obtain ⟨cs, rfl, hcz⟩ := Go.WideShapes.okWide_struct hs hval
  have hcl : (Value.agg cs).cells.toList = cs.toList := rfl
  rw [hcl] at hl h0 h1
  rw [cu] at hl
  rw [p0, s0, ci] at h0
  rw [p1, s1, ct] at h1
  match hz : cs.toList, hl with
  | [z0, z1], _ =>
    rw [hz] at h0 h1
    have h0' : DataW.trod enc P w base (fun _ => true) held n i [z0] = some y0 := by simpa using h0
    have h1' : DataW.trod enc P w base (fun _ => true) held n t [z1] = some y1 := by simpa using h1
    obtain ⟨n0, e0, _⟩ := DataW.trod_int hi h0'
    obtain ⟨v1, os, e1, k1, k2, k3⟩ := open_ops hO ht he ce o0 o1 t0 t1 hi hq ci cq h1'
    have hz0 : z0 = .int .i64 n0 := by simpa using e0
    have hz1 : z1 = v1 := by simpa using e1
    subst hz0; subst hz1
    refine ⟨⟨n0, os⟩, k1, k2, ?_⟩
    have hca : cs = [.int .i64 n0, z1].toArray := by rw [← hz]
    rw [hca]
    exact RdL.grp (fp1 := []) (fp2 := []) (.agg _ _) (.leaf (.int _ _) k3) .nil
/-- an argument: rows -/
theorem open_rowsA {O : Nat → Prop} (hO : ∀ b, ¬ O b) {base : Nat} {held : Bool} {t e q : TypeId} {v : Value} {d : DataW H} {ps : List MemPlace} (ht : P.underlying t = some (.slice e)) (he : P.underlying e = some (.slice q)) (hq : P.underlying q = some (.int .i64))
    (ce : P.cellsOf e = 1) (cq : P.cellsOf q = 1) {r : Reach} {b0 : Nat} (hval : Value.okWide P w r b0 t v) (h : DataW.Trod enc P w base (fun _ => true) held t v d ps) : ∃ (xss : List (List Int)), xss.length ≤ maxLen ∧ (∀ r ∈ xss, r.length ≤ maxLen) ∧ RdL w O [rows xss] [v] [] := by
  obtain ⟨fuel, h⟩ := h
  have hv : v.cells.toList = [v] := by
    obtain ⟨a, b, c, rfl⟩ := Go.WideShapes.okWide_slice ht hval
    rfl
  rw [hv] at h
  obtain ⟨v0, xss, hcs, h1, h2, h3⟩ := open_rows hO ht he hq ce cq h
  cases hcs
  exact ⟨xss, h1, h2, h3⟩

end
end Go.Proofs.Ytdodfnbbfkcgnaa.Ax
