/-
 What the functions compute, as functions on plain data, and that the program does compute it; written by program.
-/
import Derived.Test.YtidaaijecmkndaaCode
import Derived.Test.YtidaaijecmkndaaSo5
import Derived.Test.YtidaaijecmkndaaG1
import Derived.Test.YtidaaijecmkndaaG3
import Derived.Test.YtidaaijecmkndaaG4
import Derived.Test.YtidaaijecmkndaaG5
namespace Go.Proofs.Ytidaaijecmkndaa.Ax
open Go
set_option maxRecDepth 100000
set_option maxHeartbeats 4000000
noncomputable def Dg (a0 : SAlgebra) : Int → Option (Int ⊕ (Unit ⊕ Unit)) := fun x3 =>
 if x3 < (↑a0.Ops.length : Int) then
 ask ((0 : Int) ≤ x3 ∧ x3 < (↑a0.Ops.length : Int)) <|
 (Mj (a0.Size) (nth a0.Ops x3.toNat)).bind fun r7 =>
 if (r7) = true then
 ask (InI (x3 + (1 : Int))) <|
 some (.inl (x3 + (1 : Int)))
 else
 some (.inr (.inl ()))
 else
 some (.inr (.inr ()))
def Lu (a0 : SAlgebra) : Int → St := fun s => [(3, A.val (Af s)), (1, A.val ((rP true (Ag false)) (a0)))]
def Rw (_a0 : SAlgebra) : (Unit ⊕ Unit) → Tgt
 | (.inl _s) => (Ex.ret, [2], [(2, A.val (V.bool (false)))])
 | (.inr _s) => ((Ex.exit 0), [], [])
theorem Abi {a0 : SAlgebra} (x3 : Int) (o : Int ⊕ (Unit ⊕ Unit)) (h : Dg a0 x3 = some o) : vc Try.prog Rb (C0 [3, 1] (Lu a0) (Rw a0) o) (Lu a0 x3) := by
 unfold Dg at h
 try dsimp only at h
 conv => whnf
 refine Cells.lit rfl rfl ?_
 conv => whnf
 refine Len.map ?_
 conv => whnf
 refine Br.od h (fun p5 h => ?_) (fun p5 h => ?_)
 ·conv => whnf
  refine Cells.lit rfl rfl ?_
  conv => whnf
  refine Cells.lit rfl rfl ?_
  conv => whnf
  refine Len.map ?_
  conv => whnf
  refine Ask.o h fun p6 h => ?_
  conv => whnf
  refine Elem.o (by first | omega | (simp [As] at *; omega)) ?_
  conv => whnf
  refine CallQ.o V.bool (by first | rfl | simp only [Aa, V.fz, fzL, V.up, upL, Ab, Ac, Ad, slr, List.cons_append, List.nil_append] | simp [Aa, V.fz, fzL, V.up, upL, Ab, Ac, Ad, slr]) h (fun r h => Am9 h) (fun r7 h => ?_)
  conv => whnf
  refine Br.flip ?_
  conv => whnf
  refine Br.ob h (fun p8 h => ?_) (fun p8 h => ?_)
  ·conv => whnf
   refine Ask.o h fun p9 h => ?_
   conv => whnf
   cases h; exact ⟨rfl, rfl⟩
  conv => whnf
  cases h; exact ⟨rfl, rfl⟩
 conv => whnf
 cases h; exact ⟨rfl, rfl⟩
noncomputable def Eh (a0 : SAlgebra) : Option Bool :=
 (((Gm (a0.Size) ((1 : Int)) ((8 : Int))).bind fun r1 =>
 if (r1) = true then
 if (↑a0.Ops.length : Int) > (4 : Int) then
 some (.inl ())
 else
 some (.inr ())
 else
 some (.inl ()) : Option (Unit ⊕ Unit))).bind fun t => match t with
 | (.inl _) => (some false)
 | (.inr _) => ((Am (Dg a0) (0 : Int)).bind fun t => match t with
 | (.inl _) => (some false)
 | (.inr _) => (some true))
theorem L5 {a0 : SAlgebra} {v : Bool} (h : Eh a0 = some v) : Ret Try.prog G5 [(Ag false) a0] (V.bool v) := by
 refine A1 Ag1 (Nat.le_of_ble_eq_true rfl) ?_
 unfold Eh at h
 conv => whnf
 refine CutQ.o (fun t : (Unit ⊕ Unit) => match t with | (.inl s) => (Ex.ret, [2], [(2, A.val (V.bool (false)))]) | (.inr s) => (Ex.normal, [1], [(1, A.val ((rP true (Ag false)) (a0)))])) h ?_ ?_
 ·intro t h
  conv => whnf
  refine Cells.lit rfl rfl ?_
  conv => whnf
  refine CallQ.o V.bool (by first | rfl | simp only [Aa, V.fz, fzL, V.up, upL, Ab, Ac, Ad, slr, List.cons_append, List.nil_append] | simp [Aa, V.fz, fzL, V.up, upL, Ab, Ac, Ad, slr]) h (fun r h => Ps h) (fun r1 h => ?_)
  conv => whnf
  refine Br.flip ?_
  conv => whnf
  refine Br.ob h (fun p2 h => ?_) (fun p2 h => ?_)
  ·conv => whnf
   refine Br.no ?_
   conv => whnf
   refine Cells.lit rfl rfl ?_
   conv => whnf
   refine Br.no ?_
   conv => whnf
   refine Len.map ?_
   conv => whnf
   refine Br.no ?_
   conv => whnf
   refine Br.no ?_
   conv => whnf
   refine Br.od h (fun p3 h => ?_) (fun p3 h => ?_)
   ·conv => whnf
    cases h; exact ⟨rfl, rfl⟩
   conv => whnf
   cases h; exact ⟨rfl, rfl⟩
  conv => whnf
  refine Br.yes ?_
  conv => whnf
  refine Br.yes ?_
  conv => whnf
  refine Br.yes ?_
  conv => whnf
  refine Br.yes ?_
  conv => whnf
  refine Br.yes ?_
  conv => whnf
  cases h; exact ⟨rfl, rfl⟩
 rintro (⟨⟩ | ⟨⟩) h
 ·try dsimp only at h
  conv => whnf
  cases h; exact (by first | rfl | simp only [Ah, Aa, V.fz, fzL, V.up, upL, Ab, Ac, Ad, slr] | simp [Ah, Aa, V.fz, fzL, V.up, upL, Ab, Ac, Ad, slr])
 try dsimp only at h
 conv => whnf
 refine LoopQ.o [3, 1] (Lu a0) (Rw a0) h (fun s o h => Abi s o h) (by first | rfl | simp [restrict, look, Aa, V.fz, fzL, V.up, upL, Ab, Ac, Ad, slr]) (by rintro (_ | _) <;> rfl) ?_
 rintro (⟨⟩ | ⟨⟩) h
 ·try dsimp only at h
  conv => whnf
  cases h; exact (by first | rfl | simp only [Ah, Aa, V.fz, fzL, V.up, upL, Ab, Ac, Ad, slr] | simp [Ah, Aa, V.fz, fzL, V.up, upL, Ab, Ac, Ad, slr])
 try dsimp only at h
 conv => whnf
 cases h; exact (by first | rfl | simp only [Ah, Aa, V.fz, fzL, V.up, upL, Ab, Ac, Ad, slr] | simp [Ah, Aa, V.fz, fzL, V.up, upL, Ab, Ac, Ad, slr])
noncomputable def Cx (row0 : (List Int)) (other0 : (List Int)) : Option Bool :=
 (G7 (other0) (row0)).bind fun r1 =>
 some r1
theorem Mf {row0 : (List Int)} {other0 : (List Int)} {v : Bool} (h : Cx row0 other0 = some v) : Ret Try.prog Dx [(slr false 1 Af) row0, (slr false 1 Af) other0] (V.bool v) := by
 refine A1 Uf (Nat.le_of_ble_eq_true rfl) ?_
 unfold Cx at h
 conv => whnf
 refine CallQ.o V.bool (by first | rfl | simp only [Aa, V.fz, fzL, V.up, upL, Ab, Ac, Ad, slr, List.cons_append, List.nil_append] | simp [Aa, V.fz, fzL, V.up, upL, Ab, Ac, Ad, slr]) h (fun r h => Xb h) (fun r1 h => ?_)
 conv => whnf
 cases h; exact (by first | rfl | simp only [Ah, Aa, V.fz, fzL, V.up, upL, Ab, Ac, Ad, slr] | simp [Ah, Aa, V.fz, fzL, V.up, upL, Ab, Ac, Ad, slr])
noncomputable def B6 (a0 : SAlgebra) : (Int × (List Bool)) → Option ((Int × (List Bool)) ⊕ (List Bool)) := fun (x20, x4) =>
 if x20 < (↑(Q0 (1 : Int) a0.Size).toNat : Int) then
 (Fu (x20)).bind fun r6 =>
 (Bm (a0) (r6)).bind fun r7 =>
 ask ((0 : Int) ≤ x20 ∧ x20 < (↑x4.length : Int)) <|
 ask (InI (x20 + (1 : Int))) <|
 some (.inl (x20 + (1 : Int), x4.set x20.toNat ((↑r7.length : Int) == a0.Size)))
 else
 some (.inr x4)
def F8 (a0 : SAlgebra) : (Int × (List Bool)) → St := fun s => [(20, A.val (Af s.1)), (19, A.val (Af ((↑(Q0 (1 : Int) a0.Size).toNat : Int)))), (4, A.val ((slr true 1 V.bool) s.2)), (1, A.val ((rP true (Ag false)) (a0)))]
def J1 (a0 : SAlgebra) : (List Bool) → Tgt
 | s => ((Ex.exit 0), [4, 1], [(4, A.val ((slr true 1 V.bool) s)), (1, A.val ((rP true (Ag false)) (a0)))])
theorem Qs {a0 : SAlgebra} (s : (Int × (List Bool))) (o : (Int × (List Bool)) ⊕ (List Bool)) (h : B6 a0 s = some o) : vc Try.prog Jp (C0 [20, 19, 4, 1] (F8 a0) (J1 a0) o) (F8 a0 s) := by
 obtain ⟨x20, x4⟩ := s
 unfold B6 at h
 try dsimp only at h
 conv => whnf
 refine Br.od h (fun p5 h => ?_) (fun p5 h => ?_)
 ·conv => whnf
  refine Cells.lit rfl rfl ?_
  conv => whnf
  refine CallP.o (slr true 1 Af) (by first | rfl | simp only [Aa, V.fz, fzL, V.up, upL, Ab, Ac, Ad, slr, List.cons_append, List.nil_append] | simp [Aa, V.fz, fzL, V.up, upL, Ab, Ac, Ad, slr]) h (fun r h => Qa h) (fun r6 h => ?_)
  conv => whnf
  refine CallP.rd (slr true 1 Af) (by first | rfl | simp only [V.fz, fzL, Ab, slr] | simp [Aa, V.fz, fzL, V.up, upL, Ab, Ac, Ad, slr]) (fun _ => by simp [V.noFz, Be]) h (fun r h => Fc h) (fun r7 h => ?_)
  conv => whnf
  refine Len.map ?_
  conv => whnf
  refine Cells.lit rfl rfl ?_
  conv => whnf
  refine Len.map ?_
  conv => whnf
  refine Ask.o h fun p8 h => ?_
  conv => whnf
  refine SetKids.one (fun _ => ⟨rfl, rfl⟩) ((↑r7.length : Int) == a0.Size) (by first | rfl | simp only [Aa, V.fz, fzL, V.up, upL, Ab, Ac, Ad, slr, List.cons_append, List.nil_append] | simp [Aa, V.fz, fzL, V.up, upL, Ab, Ac, Ad, slr]) (by first | omega | (simp [As] at *; omega)) ?_
  conv => whnf
  refine Ask.o h fun p9 h => ?_
  conv => whnf
  cases h; exact ⟨rfl, rfl⟩
 conv => whnf
 cases h; exact ⟨rfl, rfl⟩
noncomputable def B4 (_a0 : SAlgebra) (q10_4 : List Bool) (x7 : Int) (_x6 : List Int) : (Int × Bool) → Option ((Int × Bool) ⊕ Bool) := fun (x44, x8) =>
 if x44 < (↑q10_4.length : Int) then
 ask ((0 : Int) ≤ x7) <|
 if Ajb (Afj x44 x7) (1 : Int) = (1 : Int) then
 ask ((0 : Int) ≤ x44 ∧ x44 < (↑q10_4.length : Int)) <|
 if (nth q10_4 x44.toNat) = true then
 ask ((0 : Int) ≤ x7) <|
 ask (InI (x44 - Q0 (1 : Int) x7)) <|
 ask ((0 : Int) ≤ x44 - Q0 (1 : Int) x7 ∧ x44 - Q0 (1 : Int) x7 < (↑q10_4.length : Int)) <|
 if (nth q10_4 (x44 - Q0 (1 : Int) x7).toNat) = true then
 ask (InI (x44 + (1 : Int))) <|
 some (.inl (x44 + (1 : Int), x8))
 else
 ask (InI (x44 + (1 : Int))) <|
 some (.inl (x44 + (1 : Int), false))
 else
 ask (InI (x44 + (1 : Int))) <|
 some (.inl (x44 + (1 : Int), x8))
 else
 ask (InI (x44 + (1 : Int))) <|
 some (.inl (x44 + (1 : Int), x8))
 else
 some (.inr x8)
def F1 (a0 : SAlgebra) (q10_4 : List Bool) (x7 : Int) (x6 : List Int) : (Int × Bool) → St := fun s => [(44, A.val (Af s.1)), (43, A.val (Af ((↑q10_4.length : Int)))), (8, A.val (V.bool s.2)), (7, A.val (Af (x7))), (6, A.val ((slr true 1 Af) (x6))), (4, A.val ((slr true 1 V.bool) (q10_4))), (1, A.val ((rP true (Ag false)) (a0)))]
def J3 (a0 : SAlgebra) (q10_4 : List Bool) (x7 : Int) (x6 : List Int) : Bool → Tgt
 | s => ((Ex.exit 4), [8, 7, 6, 4, 1], [(8, A.val (V.bool s)), (7, A.val (Af (x7))), (6, A.val ((slr true 1 Af) (x6))), (4, A.val ((slr true 1 V.bool) (q10_4))), (1, A.val ((rP true (Ag false)) (a0)))])
theorem Q4 {a0 : SAlgebra} {q10_4 : List Bool} {x7 : Int} {x6 : List Int} (s : (Int × Bool)) (o : (Int × Bool) ⊕ Bool) (h : B4 a0 q10_4 x7 x6 s = some o) : vc Try.prog Jq (C0 [44, 43, 8, 7, 6, 4, 1] (F1 a0 q10_4 x7 x6) (J3 a0 q10_4 x7 x6) o) (F1 a0 q10_4 x7 x6 s) := by
 obtain ⟨x44, x8⟩ := s
 unfold B4 at h
 try dsimp only at h
 conv => whnf
 refine Br.od h (fun p12 h => ?_) (fun p12 h => ?_)
 ·conv => whnf
  refine Ask.o h fun p13 h => ?_
  conv => whnf
  refine Br.oe h (fun p14 h => ?_) (fun p14 h => ?_)
  ·conv => whnf
   refine Br.yes ?_
   conv => whnf
   refine Br.yes ?_
   conv => whnf
   refine Len.map ?_
   conv => whnf
   refine Ask.o h fun p15 h => ?_
   conv => whnf
   refine Br.yes ?_
   conv => whnf
   refine Cells.one (fun _ => ⟨rfl, rfl⟩) (by first | omega | (simp [As] at *; omega)) ?_
   conv => whnf
   refine Br.yes ?_
   conv => whnf
   refine Br.ob h (fun p16 h => ?_) (fun p16 h => ?_)
   ·conv => whnf
    refine Br.yes ?_
    conv => whnf
    refine Br.yes ?_
    conv => whnf
    refine Br.yes ?_
    conv => whnf
    refine Ask.o h fun p17 h => ?_
    conv => whnf
    refine Br.yes ?_
    conv => whnf
    refine Ask.o h fun p18 h => ?_
    conv => whnf
    refine Br.yes ?_
    conv => whnf
    refine Len.map ?_
    conv => whnf
    refine Ask.o h fun p19 h => ?_
    conv => whnf
    refine Br.yes ?_
    conv => whnf
    refine Cells.one (fun _ => ⟨rfl, rfl⟩) (by first | omega | (simp [As] at *; omega)) ?_
    conv => whnf
    refine Br.yes ?_
    conv => whnf
    refine Br.yes ?_
    conv => whnf
    refine Br.flip ?_
    conv => whnf
    refine Br.ob h (fun p20 h => ?_) (fun p20 h => ?_)
    ·conv => whnf
     refine Ask.o h fun p21 h => ?_
     conv => whnf
     cases h; exact ⟨rfl, rfl⟩
    conv => whnf
    refine Ask.o h fun p22 h => ?_
    conv => whnf
    cases h; exact ⟨rfl, rfl⟩
   conv => whnf
   refine Br.no ?_
   conv => whnf
   refine Br.no ?_
   conv => whnf
   refine Br.no ?_
   conv => whnf
   refine Br.no ?_
   conv => whnf
   refine Br.no ?_
   conv => whnf
   refine Br.no ?_
   conv => whnf
   refine Br.no ?_
   conv => whnf
   refine Br.no ?_
   conv => whnf
   refine Br.no ?_
   conv => whnf
   refine Ask.o h fun p23 h => ?_
   conv => whnf
   cases h; exact ⟨rfl, rfl⟩
  conv => whnf
  refine Br.no ?_
  conv => whnf
  refine Br.no ?_
  conv => whnf
  refine Br.no ?_
  conv => whnf
  refine Br.no ?_
  conv => whnf
  refine Br.no ?_
  conv => whnf
  refine Br.no ?_
  conv => whnf
  refine Br.no ?_
  conv => whnf
  refine Br.no ?_
  conv => whnf
  refine Br.no ?_
  conv => whnf
  refine Br.no ?_
  conv => whnf
  refine Br.no ?_
  conv => whnf
  refine Br.no ?_
  conv => whnf
  refine Br.no ?_
  conv => whnf
  refine Br.no ?_
  conv => whnf
  refine Ask.o h fun p24 h => ?_
  conv => whnf
  cases h; exact ⟨rfl, rfl⟩
 conv => whnf
 cases h; exact ⟨rfl, rfl⟩
noncomputable def B7 (a0 : SAlgebra) (q10_4 : List Bool) : (Int × (List Int)) → Option ((Int × (List Int)) ⊕ (List Int)) := fun (x7, x6) =>
 if x7 < a0.Size then
 (Am (B4 a0 q10_4 x7 x6) ((0 : Int), true)).bind fun q25_8 =>
 if (q25_8) = true then
 ask ((x6).length + ([x7]).length ≤ LIM) <|
 ask (InI (x7 + (1 : Int))) <|
 some (.inl (x7 + (1 : Int), x6 ++ [x7]))
 else
 ask (InI (x7 + (1 : Int))) <|
 some (.inl (x7 + (1 : Int), x6))
 else
 some (.inr x6)
def Ge (a0 : SAlgebra) (q10_4 : List Bool) : (Int × (List Int)) → St := fun s => [(7, A.val (Af s.1)), (6, A.val ((slr true 1 Af) s.2)), (4, A.val ((slr true 1 V.bool) (q10_4))), (1, A.val ((rP true (Ag false)) (a0)))]
def Jy (_a0 : SAlgebra) (_q10_4 : List Bool) : (List Int) → Tgt
 | s => ((Ex.exit 2), [6], [(6, A.val ((slr true 1 Af) s))])
theorem Ri {a0 : SAlgebra} {q10_4 : List Bool} (s : (Int × (List Int))) (o : (Int × (List Int)) ⊕ (List Int)) (h : B7 a0 q10_4 s = some o) : vc Try.prog Jm (C0 [7, 6, 4, 1] (Ge a0 q10_4) (Jy a0 q10_4) o) (Ge a0 q10_4 s) := by
 obtain ⟨x7, x6⟩ := s
 unfold B7 at h
 try dsimp only at h
 conv => whnf
 refine Cells.lit rfl rfl ?_
 conv => whnf
 refine Br.od h (fun p11 h => ?_) (fun p11 h => ?_)
 ·conv => whnf
  refine Len.map ?_
  conv => whnf
  refine LoopQ.o [44, 43, 8, 7, 6, 4, 1] (F1 a0 q10_4 x7 x6) (J3 a0 q10_4 x7 x6) h (fun s o h => Q4 s o h) (by first | rfl | simp [restrict, look, Aa, V.fz, fzL, V.up, upL, Ab, Ac, Ad, slr]) (fun _ => rfl) ?_
  rintro q25_8 h
  try dsimp only at h
  conv => whnf
  refine Br.ob h (fun p26 h => ?_) (fun p26 h => ?_)
  ·conv => whnf
   refine BslQ.o Af [x7] (by exact fun _ => ⟨rfl, rfl⟩) (by first | rfl | simp only [Aa, V.fz, fzL, V.up, upL, Ab, Ac, Ad, slr, List.cons_append, List.nil_append] | simp [Aa, V.fz, fzL, V.up, upL, Ab, Ac, Ad, slr]) ?_
   conv => whnf
   refine NoOwn.o (fun _ => rfl) ?_
   conv => whnf
   refine AppQ.o (m := 1) Af (by exact fun _ => ⟨rfl, rfl⟩) (x6) ([x7]) (by first | rfl | simp only [Aa, V.fz, fzL, V.up, upL, Ab, Ac, Ad, slr, List.cons_append, List.nil_append] | simp [Aa, V.fz, fzL, V.up, upL, Ab, Ac, Ad, slr]) (by first | rfl | simp only [Aa, V.fz, fzL, V.up, upL, Ab, Ac, Ad, slr, List.cons_append, List.nil_append] | simp [Aa, V.fz, fzL, V.up, upL, Ab, Ac, Ad, slr]) h fun h => ?_
   conv => whnf
   refine Ask.o h fun p27 h => ?_
   conv => whnf
   cases h; exact ⟨rfl, rfl⟩
  conv => whnf
  refine Ask.o h fun p28 h => ?_
  conv => whnf
  cases h; exact ⟨rfl, rfl⟩
 conv => whnf
 cases h; exact ⟨rfl, rfl⟩
noncomputable def Ca (a0 : SAlgebra) : Option ((List Int) × Bool) :=
 (Cc (a0)).bind fun r1 =>
 if (r1) = true then
 ask ((0 : Int) ≤ a0.Size) <|
 ask ((0 : Int) ≤ Q0 (1 : Int) a0.Size ∧ Q0 (1 : Int) a0.Size ≤ (↑LIM : Int)) <|
 (Am (B6 a0) ((0 : Int), List.replicate (Q0 (1 : Int) a0.Size).toNat false)).bind fun q10_4 =>
 (Am (B7 a0 q10_4) ((0 : Int), A5 Int)).bind fun q29_6 =>
 some (q29_6, true)
 else
 some (A5 Int, false)
theorem V7 {a0 : SAlgebra} {v : ((List Int) × Bool)} (h : Ca a0 = some v) : Ret Try.prog Ho [(Ag false) a0] ((fun r => V.tup [(slr true 1 Af) r.1, V.bool r.2]) v) := by
 refine A1 Vf (Nat.le_of_ble_eq_true rfl) ?_
 unfold Ca at h
 conv => whnf
 refine Cells.lit rfl rfl ?_
 conv => whnf
 refine CallQ.o V.bool (by first | rfl | simp only [Aa, V.fz, fzL, V.up, upL, Ab, Ac, Ad, slr, List.cons_append, List.nil_append] | simp [Aa, V.fz, fzL, V.up, upL, Ab, Ac, Ad, slr]) h (fun r h => F3 h) (fun r1 h => ?_)
 conv => whnf
 refine Br.flip ?_
 conv => whnf
 refine Br.ob h (fun p2 h => ?_) (fun p2 h => ?_)
 ·conv => whnf
  refine Cells.lit rfl rfl ?_
  conv => whnf
  refine Ask.o h fun p3 h => ?_
  conv => whnf
  refine Ask.o h fun p4 h => ?_
  conv => whnf
  refine MkQ.o V.bool (false) rfl ?_
  conv => whnf
  refine Len.mrep ?_
  conv => whnf
  refine LoopQ.o [20, 19, 4, 1] (F8 a0) (J1 a0) h (fun s o h => Qs s o h) (by first | rfl | simp [restrict, look, Aa, V.fz, fzL, V.up, upL, Ab, Ac, Ad, slr]) (fun _ => rfl) ?_
  rintro q10_4 h
  try dsimp only at h
  conv => whnf
  refine BslQ.o Af (A5 Int) (by exact fun _ => ⟨rfl, rfl⟩) (by first | rfl | simp only [Aa, V.fz, fzL, V.up, upL, Ab, Ac, Ad, slr, List.cons_append, List.nil_append] | simp [Aa, V.fz, fzL, V.up, upL, Ab, Ac, Ad, slr]) ?_
  conv => whnf
  refine LoopQ.o [7, 6, 4, 1] (Ge a0 q10_4) (Jy a0 q10_4) h (fun s o h => Ri s o h) (by first | rfl | simp [restrict, look, Aa, V.fz, fzL, V.up, upL, Ab, Ac, Ad, slr]) (fun _ => rfl) ?_
  rintro q29_6 h
  try dsimp only at h
  conv => whnf
  cases h; exact (by first | rfl | simp only [Ah, Aa, V.fz, fzL, V.up, upL, Ab, Ac, Ad, slr] | simp [Ah, Aa, V.fz, fzL, V.up, upL, Ab, Ac, Ad, slr])
 conv => whnf
 refine BslQ.o Af (A5 Int) (by exact fun _ => ⟨rfl, rfl⟩) (by first | rfl | simp only [Aa, V.fz, fzL, V.up, upL, Ab, Ac, Ad, slr, List.cons_append, List.nil_append] | simp [Aa, V.fz, fzL, V.up, upL, Ab, Ac, Ad, slr]) ?_
 conv => whnf
 cases h; exact (by first | rfl | simp only [Ah, Aa, V.fz, fzL, V.up, upL, Ab, Ac, Ad, slr] | simp [Ah, Aa, V.fz, fzL, V.up, upL, Ab, Ac, Ad, slr])
noncomputable def B3 (a0 : SAlgebra) (x5 : Int) (_x4 : List Int) : (Int × Bool) → Option ((Int × Bool) ⊕ Bool) := fun (x7, x6) =>
 ask ((0 : Int) ≤ a0.Size) <|
 if x7 < Q0 (1 : Int) a0.Size then
 ask ((0 : Int) ≤ x5) <|
 (Fo (Aih x7 (Q0 (1 : Int) x5))).bind fun r7 =>
 (C3 (a0) (r7)).bind fun r8 =>
 if (↑r8.length : Int) < a0.Size then
 (Kg (r7)).bind fun r10 =>
 ask ((r10).length + ([x5]).length ≤ LIM) <|
 (C3 (a0) (r10 ++ [x5])).bind fun r11 =>
 if (↑r11.length : Int) = a0.Size then
 ask (InI (x7 + (1 : Int))) <|
 some (.inl (x7 + (1 : Int), true))
 else
 ask (InI (x7 + (1 : Int))) <|
 some (.inl (x7 + (1 : Int), x6))
 else
 ask (InI (x7 + (1 : Int))) <|
 some (.inl (x7 + (1 : Int), x6))
 else
 some (.inr x6)
def Fw (a0 : SAlgebra) (x5 : Int) (x4 : List Int) : (Int × Bool) → St := fun s => [(7, A.val (Af s.1)), (6, A.val (V.bool s.2)), (5, A.val (Af (x5))), (4, A.val ((slr true 1 Af) (x4))), (1, A.val ((rP true (Ag false)) (a0)))]
def Jv (a0 : SAlgebra) (x5 : Int) (x4 : List Int) : Bool → Tgt
 | s => ((Ex.exit 2), [6, 5, 4, 1], [(6, A.val (V.bool s)), (5, A.val (Af (x5))), (4, A.val ((slr true 1 Af) (x4))), (1, A.val ((rP true (Ag false)) (a0)))])
theorem Rs {a0 : SAlgebra} {x5 : Int} {x4 : List Int} (s : (Int × Bool)) (o : (Int × Bool) ⊕ Bool) (h : B3 a0 x5 x4 s = some o) : vc Try.prog Jw (C0 [7, 6, 5, 4, 1] (Fw a0 x5 x4) (Jv a0 x5 x4) o) (Fw a0 x5 x4 s) := by
 obtain ⟨x7, x6⟩ := s
 unfold B3 at h
 try dsimp only at h
 conv => whnf
 refine Cells.lit rfl rfl ?_
 conv => whnf
 refine Ask.o h fun p4 h => ?_
 conv => whnf
 refine Br.od h (fun p5 h => ?_) (fun p5 h => ?_)
 ·conv => whnf
  refine Ask.o h fun p6 h => ?_
  conv => whnf
  refine CallQ.o (slr true 1 Af) (by first | rfl | simp only [Aa, V.fz, fzL, V.up, upL, Ab, Ac, Ad, slr, List.cons_append, List.nil_append] | simp [Aa, V.fz, fzL, V.up, upL, Ab, Ac, Ad, slr]) h (fun r h => P6 h) (fun r7 h => ?_)
  conv => whnf
  refine Cells.lit rfl rfl ?_
  conv => whnf
  refine CallP.rd (slr true 1 Af) (by first | rfl | simp only [V.fz, fzL, Ab, slr] | simp [Aa, V.fz, fzL, V.up, upL, Ab, Ac, Ad, slr]) (fun _ => by simp [V.noFz, Be]) h (fun r h => Km h) (fun r8 h => ?_)
  conv => whnf
  refine Len.map ?_
  conv => whnf
  refine Cells.lit rfl rfl ?_
  conv => whnf
  refine Br.od h (fun p9 h => ?_) (fun p9 h => ?_)
  ·conv => whnf
   refine Cells.lit rfl rfl ?_
   conv => whnf
   refine Br.yes ?_
   conv => whnf
   refine Br.yes ?_
   conv => whnf
   refine CallP.rd (slr true 1 Af) (by first | rfl | simp only [V.fz, Ab, slr] | simp [Aa, V.fz, fzL, V.up, upL, Ab, Ac, Ad, slr]) (fun _ => by simp [V.noFz, Be]) h (fun r h => Aiz h) (fun r10 h => ?_)
   conv => whnf
   refine Br.yes ?_
   conv => whnf
   refine Br.yes ?_
   conv => whnf
   refine BslQ.o Af [x5] (by exact fun _ => ⟨rfl, rfl⟩) (by first | rfl | simp only [Aa, V.fz, fzL, V.up, upL, Ab, Ac, Ad, slr, List.cons_append, List.nil_append] | simp [Aa, V.fz, fzL, V.up, upL, Ab, Ac, Ad, slr]) ?_
   conv => whnf
   refine Br.yes ?_
   conv => whnf
   refine NoOwn.o (fun _ => rfl) ?_
   conv => whnf
   refine AppQ.o (m := 1) Af (by exact fun _ => ⟨rfl, rfl⟩) (r10) ([x5]) (by first | rfl | simp only [Aa, V.fz, fzL, V.up, upL, Ab, Ac, Ad, slr, List.cons_append, List.nil_append] | simp [Aa, V.fz, fzL, V.up, upL, Ab, Ac, Ad, slr]) (by first | rfl | simp only [Aa, V.fz, fzL, V.up, upL, Ab, Ac, Ad, slr, List.cons_append, List.nil_append] | simp [Aa, V.fz, fzL, V.up, upL, Ab, Ac, Ad, slr]) h fun h => ?_
   conv => whnf
   refine Br.yes ?_
   conv => whnf
   refine CallP.rd (slr true 1 Af) (by first | rfl | simp only [V.fz, fzL, Ab, slr] | simp [Aa, V.fz, fzL, V.up, upL, Ab, Ac, Ad, slr]) (fun _ => by simp [V.noFz, Be]) h (fun r h => Km h) (fun r11 h => ?_)
   conv => whnf
   refine Br.yes ?_
   conv => whnf
   refine Len.map ?_
   conv => whnf
   refine Br.yes ?_
   conv => whnf
   refine Br.yes ?_
   conv => whnf
   refine Cells.lit rfl rfl ?_
   conv => whnf
   refine Br.yes ?_
   conv => whnf
   refine Br.yes ?_
   conv => whnf
   refine Br.oe h (fun p12 h => ?_) (fun p12 h => ?_)
   ·conv => whnf
    refine Ask.o h fun p13 h => ?_
    conv => whnf
    cases h; exact ⟨rfl, rfl⟩
   conv => whnf
   refine Ask.o h fun p14 h => ?_
   conv => whnf
   cases h; exact ⟨rfl, rfl⟩
  conv => whnf
  refine Br.no ?_
  conv => whnf
  refine Br.no ?_
  conv => whnf
  refine Br.no ?_
  conv => whnf
  refine Br.no ?_
  conv => whnf
  refine Br.no ?_
  conv => whnf
  refine Br.no ?_
  conv => whnf
  refine Br.no ?_
  conv => whnf
  refine Br.no ?_
  conv => whnf
  refine Br.no ?_
  conv => whnf
  refine Br.no ?_
  conv => whnf
  refine Br.no ?_
  conv => whnf
  refine Br.no ?_
  conv => whnf
  refine Ask.o h fun p15 h => ?_
  conv => whnf
  cases h; exact ⟨rfl, rfl⟩
 conv => whnf
 cases h; exact ⟨rfl, rfl⟩
noncomputable def B5 (a0 : SAlgebra) : (Int × (List Int)) → Option ((Int × (List Int)) ⊕ (List Int)) := fun (x5, x4) =>
 if x5 < a0.Size then
 (Am (B3 a0 x5 x4) ((0 : Int), false)).bind fun q16_6 =>
 if (q16_6) = true then
 ask (InI (x5 + (1 : Int))) <|
 some (.inl (x5 + (1 : Int), x4))
 else
 ask ((x4).length + ([x5]).length ≤ LIM) <|
 ask (InI (x5 + (1 : Int))) <|
 some (.inl (x5 + (1 : Int), x4 ++ [x5]))
 else
 some (.inr x4)
def F0 (a0 : SAlgebra) : (Int × (List Int)) → St := fun s => [(5, A.val (Af s.1)), (4, A.val ((slr true 1 Af) s.2)), (1, A.val ((rP true (Ag false)) (a0)))]
def J2 (_a0 : SAlgebra) : (List Int) → Tgt
 | s => ((Ex.exit 0), [4], [(4, A.val ((slr true 1 Af) s))])
theorem Qx {a0 : SAlgebra} (s : (Int × (List Int))) (o : (Int × (List Int)) ⊕ (List Int)) (h : B5 a0 s = some o) : vc Try.prog Jo (C0 [5, 4, 1] (F0 a0) (J2 a0) o) (F0 a0 s) := by
 obtain ⟨x5, x4⟩ := s
 unfold B5 at h
 try dsimp only at h
 conv => whnf
 refine Cells.lit rfl rfl ?_
 conv => whnf
 refine Br.od h (fun p3 h => ?_) (fun p3 h => ?_)
 ·conv => whnf
  refine LoopQ.o [7, 6, 5, 4, 1] (Fw a0 x5 x4) (Jv a0 x5 x4) h (fun s o h => Rs s o h) (by first | rfl | simp [restrict, look, Aa, V.fz, fzL, V.up, upL, Ab, Ac, Ad, slr]) (fun _ => rfl) ?_
  rintro q16_6 h
  try dsimp only at h
  conv => whnf
  refine Br.flip ?_
  conv => whnf
  refine Br.ob h (fun p17 h => ?_) (fun p17 h => ?_)
  ·conv => whnf
   refine Ask.o h fun p18 h => ?_
   conv => whnf
   cases h; exact ⟨rfl, rfl⟩
  conv => whnf
  refine BslQ.o Af [x5] (by exact fun _ => ⟨rfl, rfl⟩) (by first | rfl | simp only [Aa, V.fz, fzL, V.up, upL, Ab, Ac, Ad, slr, List.cons_append, List.nil_append] | simp [Aa, V.fz, fzL, V.up, upL, Ab, Ac, Ad, slr]) ?_
  conv => whnf
  refine NoOwn.o (fun _ => rfl) ?_
  conv => whnf
  refine AppQ.o (m := 1) Af (by exact fun _ => ⟨rfl, rfl⟩) (x4) ([x5]) (by first | rfl | simp only [Aa, V.fz, fzL, V.up, upL, Ab, Ac, Ad, slr, List.cons_append, List.nil_append] | simp [Aa, V.fz, fzL, V.up, upL, Ab, Ac, Ad, slr]) (by first | rfl | simp only [Aa, V.fz, fzL, V.up, upL, Ab, Ac, Ad, slr, List.cons_append, List.nil_append] | simp [Aa, V.fz, fzL, V.up, upL, Ab, Ac, Ad, slr]) h fun h => ?_
  conv => whnf
  refine Ask.o h fun p19 h => ?_
  conv => whnf
  cases h; exact ⟨rfl, rfl⟩
 conv => whnf
 cases h; exact ⟨rfl, rfl⟩
noncomputable def B9 (a0 : SAlgebra) : Option ((List Int) × Bool) :=
 (Eh (a0)).bind fun r1 =>
 if (r1) = true then
 (Am (B5 a0) ((0 : Int), A5 Int)).bind fun q20_4 =>
 some (q20_4, true)
 else
 some (A5 Int, false)
theorem Vu {a0 : SAlgebra} {v : ((List Int) × Bool)} (h : B9 a0 = some v) : Ret Try.prog Hr [(Ag false) a0] ((fun r => V.tup [(slr true 1 Af) r.1, V.bool r.2]) v) := by
 refine A1 Ve (Nat.le_of_ble_eq_true rfl) ?_
 unfold B9 at h
 conv => whnf
 refine BslQ.o Af (A5 Int) (by exact fun _ => ⟨rfl, rfl⟩) (by first | rfl | simp only [Aa, V.fz, fzL, V.up, upL, Ab, Ac, Ad, slr, List.cons_append, List.nil_append] | simp [Aa, V.fz, fzL, V.up, upL, Ab, Ac, Ad, slr]) ?_
 conv => whnf
 refine Cells.lit rfl rfl ?_
 conv => whnf
 refine CallQ.o V.bool (by first | rfl | simp only [Aa, V.fz, fzL, V.up, upL, Ab, Ac, Ad, slr, List.cons_append, List.nil_append] | simp [Aa, V.fz, fzL, V.up, upL, Ab, Ac, Ad, slr]) h (fun r h => L5 h) (fun r1 h => ?_)
 conv => whnf
 refine Br.flip ?_
 conv => whnf
 refine Br.ob h (fun p2 h => ?_) (fun p2 h => ?_)
 ·conv => whnf
  refine LoopQ.o [5, 4, 1] (F0 a0) (J2 a0) h (fun s o h => Qx s o h) (by first | rfl | simp [restrict, look, Aa, V.fz, fzL, V.up, upL, Ab, Ac, Ad, slr]) (fun _ => rfl) ?_
  rintro q20_4 h
  try dsimp only at h
  conv => whnf
  cases h; exact (by first | rfl | simp only [Ah, Aa, V.fz, fzL, V.up, upL, Ab, Ac, Ad, slr] | simp [Ah, Aa, V.fz, fzL, V.up, upL, Ab, Ac, Ad, slr])
 conv => whnf
 cases h; exact (by first | rfl | simp only [Ah, Aa, V.fz, fzL, V.up, upL, Ab, Ac, Ad, slr] | simp [Ah, Aa, V.fz, fzL, V.up, upL, Ab, Ac, Ad, slr])
noncomputable def Bo (a0 : SAlgebra) : (Int × (List (List Int))) → Option ((Int × (List (List Int))) ⊕ (List (List Int))) := fun (x5, x4) =>
 ask ((0 : Int) ≤ a0.Size) <|
 if x5 < Q0 (1 : Int) a0.Size then
 (Fu (x5)).bind fun r5 =>
 ask ((x4).length + ([r5]).length ≤ LIM) <|
 ask (InI (x5 + (1 : Int))) <|
 some (.inl (x5 + (1 : Int), x4 ++ [r5]))
 else
 some (.inr x4)
def Fa (a0 : SAlgebra) : (Int × (List (List Int))) → St := fun s => [(5, A.val (Af s.1)), (4, A.val ((slr true 1 (slr true 1 Af)) s.2)), (1, A.val ((rP true (Ag false)) (a0)))]
def Ic (a0 : SAlgebra) : (List (List Int)) → Tgt
 | s => ((Ex.exit 0), [4, 1], [(4, A.val ((slr true 1 (slr true 1 Af)) s)), (1, A.val ((rP true (Ag false)) (a0)))])
theorem O8 {a0 : SAlgebra} (s : (Int × (List (List Int)))) (o : (Int × (List (List Int))) ⊕ (List (List Int))) (h : Bo a0 s = some o) : vc Try.prog H8 (C0 [5, 4, 1] (Fa a0) (Ic a0) o) (Fa a0 s) := by
 obtain ⟨x5, x4⟩ := s
 unfold Bo at h
 try dsimp only at h
 conv => whnf
 refine Cells.lit rfl rfl ?_
 conv => whnf
 refine Ask.o h fun p3 h => ?_
 conv => whnf
 refine Br.od h (fun p4 h => ?_) (fun p4 h => ?_)
 ·conv => whnf
  refine CallQ.o (slr true 1 Af) (by first | rfl | simp only [Aa, V.fz, fzL, V.up, upL, Ab, Ac, Ad, slr, List.cons_append, List.nil_append] | simp [Aa, V.fz, fzL, V.up, upL, Ab, Ac, Ad, slr]) h (fun r h => Qa h) (fun r5 h => ?_)
  conv => whnf
  refine BslQ.o (slr true 1 Af) [r5] (by exact fun _ => ⟨rfl, rfl⟩) (by first | rfl | simp only [Aa, V.fz, fzL, V.up, upL, Ab, Ac, Ad, slr, List.cons_append, List.nil_append] | simp [Aa, V.fz, fzL, V.up, upL, Ab, Ac, Ad, slr]) ?_
  conv => whnf
  refine NoOwn.own rfl ?_
  conv => whnf
  refine AppQ.o (m := 1) (slr true 1 Af) (by exact fun _ => ⟨rfl, rfl⟩) (x4) ([r5]) (by first | rfl | simp only [Aa, V.fz, fzL, V.up, upL, Ab, Ac, Ad, slr, List.cons_append, List.nil_append] | simp [Aa, V.fz, fzL, V.up, upL, Ab, Ac, Ad, slr]) (by first | rfl | simp only [Aa, V.fz, fzL, V.up, upL, Ab, Ac, Ad, slr, List.cons_append, List.nil_append] | simp [Aa, V.fz, fzL, V.up, upL, Ab, Ac, Ad, slr]) h fun h => ?_
  conv => whnf
  refine Ask.o h fun p6 h => ?_
  conv => whnf
  cases h; exact ⟨rfl, rfl⟩
 conv => whnf
 cases h; exact ⟨rfl, rfl⟩
noncomputable def Ba (a0 : SAlgebra) (u9 : List (List Int)) : Int → Option (Int ⊕ ((List Int) ⊕ Unit)) := fun x29 =>
 if x29 < (↑u9.length : Int) then
 ask ((0 : Int) ≤ x29 ∧ x29 < (↑u9.length : Int)) <|
 (Bm (a0) (nth u9 x29.toNat)).bind fun r12 =>
 if (↑r12.length : Int) = a0.Size then
 some (.inr (.inl (nth u9 x29.toNat)))
 else
 ask (InI (x29 + (1 : Int))) <|
 some (.inl (x29 + (1 : Int)))
 else
 some (.inr (.inr ()))
def E8 (a0 : SAlgebra) (u9 : List (List Int)) : Int → St := fun s => [(29, A.val (Af s)), (28, A.val (Af ((↑u9.length : Int)))), (27, A.val ((slr false 1 (slr false 1 Af)) (u9))), (1, A.val ((rP true (Ag false)) (a0)))]
def Ib (_a0 : SAlgebra) (_u9 : List (List Int)) : ((List Int) ⊕ Unit) → Tgt
 | (.inl s) => (Ex.ret, [3, 2], [(3, A.val (V.bool (true))), (2, A.val ((slr false 1 Af) s))])
 | (.inr _s) => ((Ex.exit 2), [], [])
theorem O5 {a0 : SAlgebra} {u9 : List (List Int)} (x29 : Int) (o : Int ⊕ ((List Int) ⊕ Unit)) (h : Ba a0 u9 x29 = some o) : vc Try.prog H9 (C0 [29, 28, 27, 1] (E8 a0 u9) (Ib a0 u9) o) (E8 a0 u9 x29) := by
 unfold Ba at h
 try dsimp only at h
 conv => whnf
 refine Br.od h (fun p10 h => ?_) (fun p10 h => ?_)
 ·conv => whnf
  refine Len.map ?_
  conv => whnf
  refine Ask.o h fun p11 h => ?_
  conv => whnf
  refine Elem.o (by first | omega | (simp [As] at *; omega)) ?_
  conv => whnf
  refine Cells.lit rfl rfl ?_
  conv => whnf
  refine CallP.o (slr true 1 Af) (by first | rfl | simp only [Aa, V.fz, fzL, V.up, upL, Ab, Ac, Ad, slr, List.cons_append, List.nil_append] | simp [Aa, V.fz, fzL, V.up, upL, Ab, Ac, Ad, slr]) h (fun r h => Fc h) (fun r12 h => ?_)
  conv => whnf
  refine Len.map ?_
  conv => whnf
  refine Cells.lit rfl rfl ?_
  conv => whnf
  refine Br.oe h (fun p13 h => ?_) (fun p13 h => ?_)
  ·conv => whnf
   cases h; exact ⟨rfl, rfl⟩
  conv => whnf
  refine Ask.o h fun p14 h => ?_
  conv => whnf
  cases h; exact ⟨rfl, rfl⟩
 conv => whnf
 cases h; exact ⟨rfl, rfl⟩
noncomputable def Bf (a0 : SAlgebra) : Option ((List Int) × Bool) :=
 (Cc (a0)).bind fun r1 =>
 if (r1) = true then
 (Am (Bo a0) ((0 : Int), A5 (List Int))).bind fun q7_4 =>
 (D5 (q7_4) (fun w_0 w_1 => Cf w_0 w_1)).bind fun (_r8, u9) =>
 (Am (Ba a0 u9) (0 : Int)).bind fun t => match t with
 | (.inl q15_2) => (some (q15_2, true))
 | (.inr _) => (some (A5 Int, false))
 else
 some (A5 Int, false)
theorem Tg {a0 : SAlgebra} {v : ((List Int) × Bool)} (h : Bf a0 = some v) : Ret Try.prog Gx [(Ag false) a0] ((fun r => V.tup [(slr false 1 Af) r.1, V.bool r.2]) v) := by
 refine V4 Tc (Nat.le_of_ble_eq_true rfl) ?_
 unfold Bf at h
 conv => whnf
 refine Cells.lit rfl rfl ?_
 conv => whnf
 refine CallQ.o V.bool (by first | rfl | simp only [Aa, V.fz, fzL, V.up, upL, Ab, Ac, Ad, slr, List.cons_append, List.nil_append] | simp [Aa, V.fz, fzL, V.up, upL, Ab, Ac, Ad, slr]) h (fun r h => F3 h) (fun r1 h => ?_)
 conv => whnf
 refine Br.flip ?_
 conv => whnf
 refine Br.ob h (fun p2 h => ?_) (fun p2 h => ?_)
 ·conv => whnf
  refine BslQ.o (slr true 1 Af) (A5 (List Int)) (by exact fun _ => ⟨rfl, rfl⟩) (by first | rfl | simp only [Aa, V.fz, fzL, V.up, upL, Ab, Ac, Ad, slr, List.cons_append, List.nil_append] | simp [Aa, V.fz, fzL, V.up, upL, Ab, Ac, Ad, slr]) ?_
  conv => whnf
  refine LoopQ.o [5, 4, 1] (Fa a0) (Ic a0) h (fun s o h => O8 s o h) (by first | rfl | simp [restrict, look, Aa, V.fz, fzL, V.up, upL, Ab, Ac, Ad, slr]) (fun _ => rfl) ?_
  rintro q7_4 h
  try dsimp only at h
  conv => whnf
  refine CallQ.io (fun r => V.tup []) (slr true 1 (slr true 1 Af)) (by first | rfl | simp only [Aa, V.fz, fzL, V.up, upL, Ab, Ac, Ad, slr, List.cons_append, List.nil_append] | simp [Aa, V.fz, fzL, V.up, upL, Ab, Ac, Ad, slr]) rfl (fun _ => rfl) (fun _ => ⟨rfl, rfl⟩) rfl h (fun r h => Tq (f_order0 := C6) (c_order0 := []) (fun w_0 w_1 v h => Ret.cast (by first | rfl | simp only [Aa, V.fz, fzL, V.up, upL, Ab, Ac, Ad, slr, List.cons_append, List.nil_append] | simp [Aa, V.fz, fzL, V.up, upL, Ab, Ac, Ad, slr]) (Nc h)) h) (fun r8 u9 h => ?_)
  conv => whnf
  refine FrzQ.d (V.sl false (1 : Nat) (List.map (slr false (1 : Nat) Af) u9)) (by first | (simp only [slr]; done) | (simp [Fe, V.fz, Ab, slr]; done)) ?_
  conv => whnf
  refine Len.map ?_
  conv => whnf
  refine LoopQ.o [29, 28, 27, 1] (E8 a0 u9) (Ib a0 u9) h (fun s o h => O5 s o h) (by first | rfl | simp [restrict, look, Aa, V.fz, fzL, V.up, upL, Ab, Ac, Ad, slr]) (by rintro (_ | _) <;> rfl) ?_
  rintro (q15_2 | ⟨⟩) h
  ·try dsimp only at h
   conv => whnf
   cases h; exact (by first | rfl | simp only [Ah, Aa, V.fz, fzL, V.up, upL, Ab, Ac, Ad, slr] | simp [Ah, Aa, V.fz, fzL, V.up, upL, Ab, Ac, Ad, slr])
  try dsimp only at h
  conv => whnf
  refine BslQ.o Af (A5 Int) (by exact fun _ => ⟨rfl, rfl⟩) (by first | rfl | simp only [Aa, V.fz, fzL, V.up, upL, Ab, Ac, Ad, slr, List.cons_append, List.nil_append] | simp [Aa, V.fz, fzL, V.up, upL, Ab, Ac, Ad, slr]) ?_
  conv => whnf
  cases h; exact (by first | rfl | simp only [Ah, Aa, V.fz, fzL, V.up, upL, Ab, Ac, Ad, slr] | simp [Ah, Aa, V.fz, fzL, V.up, upL, Ab, Ac, Ad, slr])
 conv => whnf
 refine BslQ.o Af (A5 Int) (by exact fun _ => ⟨rfl, rfl⟩) (by first | rfl | simp only [Aa, V.fz, fzL, V.up, upL, Ab, Ac, Ad, slr, List.cons_append, List.nil_append] | simp [Aa, V.fz, fzL, V.up, upL, Ab, Ac, Ad, slr]) ?_
 conv => whnf
 cases h; exact (by first | rfl | simp only [Ah, Aa, V.fz, fzL, V.up, upL, Ab, Ac, Ad, slr] | simp [Ah, Aa, V.fz, fzL, V.up, upL, Ab, Ac, Ad, slr])
end Go.Proofs.Ytidaaijecmkndaa.Ax
