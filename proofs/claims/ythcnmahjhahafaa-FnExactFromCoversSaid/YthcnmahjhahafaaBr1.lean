/-
  From memory to plain data: a list of pairs as an argument.
-/
import Derived.Test.YthcnmahjhahafaaAxY
import Derived.Deep.Slices
namespace Go.Proofs.Ythcnmahjhahafaa.Ax
open Go Go.ChangeShapes Go.RowKit Go.Deep

section
variable {H : Type} {enc : TypeId × Value → H} {P : Program} {w : World}
abbrev prs (xs : List (Int × Int)) : V := slr false 2 (rA2 vint) xs
abbrev prV (p : Int × Int) : List Value := [.int .i64 p.1, .int .i64 p.2]
theorem flat_prs (zs : List (Int × Int)) : flat (zs.map (rA2 vint)) = zs.flatMap fun p => [vint p.1, vint p.2] := by
  induction zs with
  | nil => rfl
  | cons p r ih => simp only [List.map_cons, flat, List.flatMap_cons, ih]; rfl
theorem rd_prs {O : Nat → Prop} (zs : List (Int × Int)) : RdL w O (zs.flatMap fun p => [vint p.1, vint p.2]) (zs.flatMap prV) [] := by
  induction zs with
  | nil => exact .nil
  | cons p r ih => exact .leaf (.int _ _) (.leaf (.int _ _) ih)
theorem own_prs (zs : List (Int × Int)) : anyOwn (zs.flatMap fun p => [vint p.1, vint p.2]) = false := by
  induction zs with
  | nil => rfl
  | cons p r ih => simpa [anyOwn, V.hasOwn] using ih
theorem len_prs (zs : List (Int × Int)) : (zs.flatMap prV).length = 2 * zs.length := by
  induction zs with
  | nil => rfl
  | cons p r ih => simp only [List.flatMap_cons, List.length_append, ih, List.length_cons]; simp; omega
theorem cells_prs {b : Nat} : ∀ (zs : List (Int × Int)) (off : Nat), (∀ j p, zs[j]? = some p → w.cell? ⟨b, off + 2 * j, none⟩ = some (.int .i64 p.1) ∧ w.cell? ⟨b, off + 2 * j + 1, none⟩ = some (.int .i64 p.2)) →
    ∀ i, i < (zs.flatMap prV).length → w.cell? ⟨b, off + i, none⟩ = (zs.flatMap prV)[i]? := by
  intro zs
  induction zs with
  | nil => intro off _ i hi; simp at hi
  | cons p r ih =>
    intro off h i hi
    obtain ⟨h0, h1⟩ := h 0 p rfl
    match i with
    | 0 => simpa using h0
    | 1 => simpa using h1
    | i + 2 =>
      have hi' : i < (r.flatMap prV).length := by
        have e : ((p :: r).flatMap prV).length = (r.flatMap prV).length + 2 := by simp
        omega
      have := ih (off + 2) (fun j q hq => by
        have := h (j + 1) q (by simpa using hq)
        rw [show off + 2 + 2 * j = off + 2 * (j + 1) by omega]
        exact this) i hi'
      rw [show off + (i + 2) = off + 2 + i by omega, this]
      simp

/-- an argument: pairs of numbers -/
theorem open_pairs1 {O : Nat → Prop} (hO : ∀ b, ¬ O b) {base : Nat} {held : Bool} {t e q : TypeId} {v : Value} {d : DataW H} {ps : List MemPlace} (ht : P.underlying t = some (.slice e)) (he : P.underlying e = some (.array 2 q)) (hq : P.underlying q = some (.int .i64))
    (ce : P.cellsOf e = 2) (cq : P.cellsOf q = 1) {r : Reach} {b0 : Nat} (hval : Value.okWide P w r b0 t v) (h : DataW.Trod enc P w base (fun _ => true) held t v d ps) : ∃ (xs : List (Int × Int)), xs.length ≤ maxLen ∧ RdL w O [prs xs] [v] [] := by
  obtain ⟨fuel, h⟩ := h
  have hv : v.cells.toList = [v] := by
    obtain ⟨a, b, c, rfl⟩ := Go.WideShapes.okWide_slice ht hval
    rfl
  rw [hv] at h
  rcases open_slice ht h with ⟨e1, _⟩ | ⟨a, len, cap, m, n, D, Pl, e1, _, hl, hm, hmm, _, hx⟩
  · cases e1
    exact ⟨[], by simp, .leaf (show Leaf (V.sl false 2 (([] : List (Int × Int)).map (rA2 vint))) _ from Leaf.nils 2) .nil⟩
  · cases e1
    simp only [if_true] at hmm
    subst hmm
    have each : ∀ i, i < m → ∃ p : Int × Int, w.cell? (a.add (i * 2)) = some (.int .i64 p.1) ∧ w.cell? (a.add (i * 2 + 1)) = some (.int .i64 p.2) := by
      intro i hi
      obtain ⟨cs', h1, h2⟩ := hx i hi
      rw [ce] at h1
      obtain ⟨_, hlen, hcell⟩ := World.cells?_some h1
      obtain ⟨xs, k, _, _, _, hxl, hf⟩ := DataW.trod_array he h2
      match xs, hxl, cs', hlen with
      | [y0, y1], _, [v0, v1], _ =>
        have g0 := hf 0 (by omega)
        have g1 := hf 1 (by omega)
        simp [cq] at g0 g1
        obtain ⟨n0, z0, _⟩ := DataW.trod_int hq g0
        obtain ⟨n1, z1, _⟩ := DataW.trod_int hq g1
        have e0 := hcell 0 (by omega)
        have e1 := hcell 1 (by omega)
        rw [add_add] at e0 e1
        cases z0; cases z1
        exact ⟨(n0, n1), by simpa using e0, by simpa using e1⟩
    obtain ⟨Z, hZ⟩ := choose_lt each
    refine ⟨(List.range len).map Z, by simpa using Nat.le_trans hl hm, ?_⟩
    by_cases h0 : m = 0
    · subst h0
      obtain rfl : len = 0 := by omega
      exact .leaf (show Leaf (V.sl false 2 (([] : List (Int × Int)).map (rA2 vint))) _ from Leaf.empt 2 a) .nil
    · obtain ⟨b, off, spot⟩ := a
      have hs : spot = none := by
        have h1 := (hZ 0 (by omega)).1
        cases spot with
        | none => rfl
        | some s => simp [World.cell?, Addr.add] at h1; split at h1 <;> simp_all
      subst hs
      have hlen : ((List.range len).map Z).length = len := by simp
      have hd := Hdr.sl false 2 (((List.range len).map Z).map (rA2 vint)) b off m (by intro x hx; obtain ⟨p, _, rfl⟩ := List.mem_map.1 hx; rfl) (by rw [List.length_map, hlen]; exact hl)
      rw [flat_prs, List.length_map, hlen] at hd
      refine .fblk (vch := ((List.range len).map Z).flatMap prV) hd (cells_prs _ off fun j p hj => ?_) ⟨.inr (hO b), own_prs _⟩ (rd_prs _) .nil
      obtain ⟨hj1, hj2⟩ := List.getElem?_eq_some_iff.1 hj
      have hjl : j < len := by simpa using hj1
      have hp : p = Z j := by rw [← hj2]; simp
      subst hp
      have := hZ j (by omega)
      rw [add_none, add_none] at this
      rw [show off + 2 * j = off + j * 2 by omega, show off + j * 2 + 1 = off + (j * 2 + 1) by omega]
      exact this
end
end Go.Proofs.Ythcnmahjhahafaa.Ax
