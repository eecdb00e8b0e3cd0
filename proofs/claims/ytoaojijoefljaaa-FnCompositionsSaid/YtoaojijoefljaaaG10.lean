/-
 What the functions compute, as functions on plain data, and that the program does compute it; written by program.
-/
import Derived.Test.YtoaojijoefljaaaCode
import Derived.Test.YtoaojijoefljaaaG1
import Derived.Test.YtoaojijoefljaaaG2
import Derived.Test.YtoaojijoefljaaaG3
import Derived.Test.YtoaojijoefljaaaG7
import Derived.Test.YtoaojijoefljaaaG8
namespace Go.Proofs.Ytoaojijoefljaaa.Ax
open Go
set_option maxRecDepth 100000
set_option maxHeartbeats 4000000
noncomputable def Cs (a0 : SAlgebra) (k0 : Int) : Option ((Option Sfound) × Bool) :=
 (((Hm (a0)).bind fun r1 =>
 if (r1) = true then
 (Ff (a0.Size) (k0)).bind fun r3 =>
 if (r3) = true then
 some (.inl ())
 else
 some (.inr ())
 else
 some (.inr ()) : Option (Unit ⊕ Unit))).bind fun t => match t with
 | (.inl _) => ((Hk (a0.Size) (a0.Ops) (k0)).bind fun t => match t with
 | (none, r6_2) => (some (none, r6_2))
 | ((some r6_1), r6_2) => (some (some r6_1, r6_2)))
 | (.inr _) => (some (none, false))
theorem Nw {a0 : SAlgebra} {k0 : Int} {v : ((Option Sfound) × Bool)} (h : Cs a0 k0 = some v) : Ret Try.prog Gp [(Al false) a0, Ae k0] ((fun r => V.tup [(rO false (Ee false)) r.1, V.bool r.2]) v) := by
 refine Abj W4 (Nat.le_of_ble_eq_true rfl) ?_
 unfold Cs at h
 conv => whnf
 refine CutQ.o (fun t : (Unit ⊕ Unit) => match t with | (.inl s) => (Ex.normal, [2, 1], [(2, A.val ((rP true (Al false)) (a0))), (1, A.val (Ae (k0)))]) | (.inr s) => (Ex.ret, [5, 4], [(5, A.val (V.bool (false))), (4, A.val V.nilp.up)])) h ?_ ?_
 ·intro t h
  conv => whnf
  refine Cells.lit rfl rfl ?_
  conv => whnf
  refine CallQ.o V.bool (by rfl) h (fun r h => Acs h) (fun r1 h => ?_)
  conv => whnf
  refine Br.flip ?_
  conv => whnf
  refine Br.ob h (fun p2 h => ?_) (fun p2 h => ?_)
  ·conv => whnf
   refine Br.no ?_
   conv => whnf
   refine Cells.lit rfl rfl ?_
   conv => whnf
   refine Br.no ?_
   conv => whnf
   refine Br.no ?_
   conv => whnf
   refine CallQ.o V.bool (by rfl) h (fun r h => Y1 h) (fun r3 h => ?_)
   conv => whnf
   refine Br.no ?_
   conv => whnf
   refine Br.no ?_
   conv => whnf
   refine Br.flip ?_
   conv => whnf
   refine Br.ob h (fun p4 h => ?_) (fun p4 h => ?_)
   ·conv => whnf
    cases h; exact ⟨rfl, rfl⟩
   conv => whnf
   cases h; exact ⟨rfl, rfl⟩
  conv => whnf
  refine Br.yes ?_
  conv => whnf
  refine Br.yes ?_
  conv => whnf
  refine Br.yes ?_
  conv => whnf
  refine Br.yes ?_
  conv => whnf
  refine Br.yes ?_
  conv => whnf
  refine Br.yes ?_
  conv => whnf
  cases h; exact ⟨rfl, rfl⟩
 rintro (⟨⟩ | ⟨⟩) h
 ·try dsimp only at h
  conv => whnf
  refine Cells.lit rfl rfl ?_
  conv => whnf
  refine Cells.lit rfl rfl ?_
  conv => whnf
  refine CallQ.o (fun r => V.tup [(rO false (Ee false)) r.1, V.bool r.2]) (by rfl) h (fun r h => Af9 h) (fun r6 h => ?_)
  rcases r6 with ⟨(_ | r6_1), r6_2⟩
  ·try dsimp only at h
   conv => whnf
   cases h; exact (by rfl)
  try dsimp only at h
  conv => whnf
  cases h; exact (by rfl)
 try dsimp only at h
 conv => whnf
 cases h; exact (by rfl)
noncomputable def Ly (a0 : SAlgebra) (f0 : SOp) : Option Bool :=
 (G2 (a0)).bind fun r1 =>
 if (r1) = true then
 (Ej (a0.Size) (f0.Arity)).bind fun r3 =>
 if (r3) = true then
 (C5 (a0.Size) (f0)).bind fun r5 =>
 some r5
 else
 some false
 else
 some false
theorem Ak7 {a0 : SAlgebra} {f0 : SOp} {v : Bool} (h : Ly a0 f0 = some v) : Ret Try.prog U1 [(Al false) a0, (Ai false) f0] (V.bool v) := by
 refine Bg Akj (Nat.le_of_ble_eq_true rfl) ?_
 unfold Ly at h
 conv => whnf
 refine Cells.lit rfl rfl ?_
 conv => whnf
 refine CallQ.o V.bool (by rfl) h (fun r h => Ss h) (fun r1 h => ?_)
 conv => whnf
 refine Br.ob h (fun p2 h => ?_) (fun p2 h => ?_)
 ·conv => whnf
  refine Br.yes ?_
  conv => whnf
  refine Cells.lit rfl rfl ?_
  conv => whnf
  refine Br.yes ?_
  conv => whnf
  refine Br.yes ?_
  conv => whnf
  refine Cells.lit rfl rfl ?_
  conv => whnf
  refine Br.yes ?_
  conv => whnf
  refine CallQ.o V.bool (by rfl) h (fun r h => M0 h) (fun r3 h => ?_)
  conv => whnf
  refine Br.yes ?_
  conv => whnf
  refine Br.ob h (fun p4 h => ?_) (fun p4 h => ?_)
  ·conv => whnf
   refine Br.yes ?_
   conv => whnf
   refine Cells.lit rfl rfl ?_
   conv => whnf
   refine Br.yes ?_
   conv => whnf
   refine Cells.lit rfl rfl ?_
   conv => whnf
   refine Br.yes ?_
   conv => whnf
   refine CallQ.o V.bool (by rfl) h (fun r h => Hn h) (fun r5 h => ?_)
   conv => whnf
   refine Br.yes ?_
   conv => whnf
   cases h; exact (by rfl)
  conv => whnf
  refine Br.no ?_
  conv => whnf
  refine Br.no ?_
  conv => whnf
  refine Br.no ?_
  conv => whnf
  refine Br.no ?_
  conv => whnf
  cases h; exact (by rfl)
 conv => whnf
 refine Br.no ?_
 conv => whnf
 refine Br.no ?_
 conv => whnf
 refine Br.no ?_
 conv => whnf
 refine Br.no ?_
 conv => whnf
 refine Br.no ?_
 conv => whnf
 refine Br.no ?_
 conv => whnf
 refine Br.no ?_
 conv => whnf
 refine Br.no ?_
 conv => whnf
 refine Br.no ?_
 conv => whnf
 refine Br.no ?_
 conv => whnf
 cases h; exact (by rfl)
noncomputable def Cw (r2 : Int) : (Int × SOp × Sl1Cur) → Option ((Int × SOp × Sl1Cur) ⊕ (SOp × Sl1Cur)) := fun (x6, x5, x68) =>
 if x6 > (0 : Int) then
 (Ap (x68) (r2)).bind fun (r7, u8) =>
 ask ((x5.Table).length + ([r7]).length ≤ LIM) <|
 ask (InI (x6 - (1 : Int))) <|
 some (.inl (x6 - (1 : Int), { Arity := x5.Arity, Table := x5.Table ++ [r7] }, u8))
 else
 some (.inr (x5, x68))
def F0 (r2 : Int) : (Int × SOp × Sl1Cur) → St := fun s => [(6, A.val (Ae s.1)), (5, A.val ((rP true (Ai true)) s.2.1)), (1, A.val (Ae (r2))), (4, A.val ((rP true (Ai true)) ({ Arity := (0 : Int), Table := Ao Int }))), (0, A.ref 68 []), (68, A.val ((rP true (Ak false)) s.2.2))]
def Jg (r2 : Int) : (SOp × Sl1Cur) → Tgt
 | s => ((Ex.exit 0), [5, 1, 4, 0, 68], [(5, A.val ((rP true (Ai true)) s.1)), (1, A.val (Ae (r2))), (4, A.val ((rP true (Ai true)) ({ Arity := (0 : Int), Table := Ao Int }))), (0, A.ref 68 []), (68, A.val ((rP true (Ak false)) s.2))])
theorem Px {r2 : Int} (s : (Int × SOp × Sl1Cur)) (o : (Int × SOp × Sl1Cur) ⊕ (SOp × Sl1Cur)) (h : Cw r2 s = some o) : vc Try.prog I4 (Dy [6, 5, 1, 4, 0, 68] (F0 r2) (Jg r2) o) (F0 r2 s) := by
 obtain ⟨x6, x5, x68⟩ := s
 unfold Cw at h
 try dsimp only at h
 conv => whnf
 refine Br.od h (fun p6 h => ?_) (fun p6 h => ?_)
 ·conv => whnf
  refine Cells.lit rfl rfl ?_
  conv => whnf
  refine LendP.io Ae (rP true (Ak false)) (by rfl) (fun _ => rfl) (fun _ => ⟨rfl, rfl⟩) (fun _ => rfl) h (fun r h => Aw h) (fun r7 u8 h => ?_)
  conv => whnf
  refine BslQ.o Ae [r7] (by exact fun _ => ⟨rfl, rfl⟩) (by rfl) ?_
  conv => whnf
  refine NoOwn.o (fun _ => rfl) ?_
  conv => whnf
  refine Kid.lit rfl rfl ?_
  conv => whnf
  refine Kid.lit rfl rfl ?_
  conv => whnf
  refine SetKids.lit rfl ?_
  conv => whnf
  refine AppQ.o (m := 1) Ae (by exact fun _ => ⟨rfl, rfl⟩) (x5.Table) ([r7]) (by rfl) (by rfl) h fun h => ?_
  conv => whnf
  refine SetKids.lit rfl ?_
  conv => whnf
  refine Ask.o h fun p9 h => ?_
  conv => whnf
  cases h; exact ⟨rfl, rfl⟩
 conv => whnf
 cases h; exact ⟨rfl, rfl⟩
noncomputable def Bn (c0 : Sl1Cur) (n0 : Int) : Option (SOp × Sl1Cur) :=
 (C9 (n0) ((1 : Int))).bind fun r1 =>
 (I6 (r1) ((4 : Int))).bind fun r2 =>
 (Ay (c0) ([(1 : Int), (1 : Int), (2 : Int), (2 : Int), (2 : Int), (3 : Int), (0 : Int)])).bind fun (r3, u4) =>
 (Cj (r2) (r3)).bind fun r5 =>
 (Ar (Cw r2) (r5, { Arity := r3, Table := Ao Int }, u4)).bind fun (q10_5, q10_68) =>
 (Ap (q10_68) ((12 : Int))).bind fun (r11, u12) =>
 if r11 = (0 : Int) then
 if q10_5.Arity > (0 : Int) then
 (Ap (u12) (q10_5.Arity)).bind fun (r15, u16) =>
 (Ci (r2) (q10_5.Arity) (r15)).bind fun r17 =>
 some ({ Arity := q10_5.Arity, Table := r17 }, u16)
 else
 some (q10_5, u12)
 else
 if r11 = (1 : Int) then
 (Ap (u12) ((↑q10_5.Table.length : Int))).bind fun (r19, u20) =>
 (Ay (u20) ([(-1 : Int), r2, (0 : Int)])).bind fun (r21, u22) =>
 ask ((0 : Int) ≤ r19 ∧ r19 < (↑q10_5.Table.length : Int)) <|
 some ({ Arity := q10_5.Arity, Table := q10_5.Table.set r19.toNat r21 }, u22)
 else
 if r11 = (2 : Int) then
 ask ((q10_5.Table).length + ([(0 : Int)]).length ≤ LIM) <|
 some ({ Arity := q10_5.Arity, Table := q10_5.Table ++ [(0 : Int)] }, u12)
 else
 some (q10_5, u12)
theorem G4 {c0 : Sl1Cur} {n0 : Int} {v : (SOp × Sl1Cur)} (h : Bn c0 n0 = some v) : Sm Try.prog Dj [(rP true (Ak false)) c0, Ae n0] ((Ai true) v.1) 0 ((rP true (Ak false)) v.2) := by
 refine Oz T5 (Nat.le_of_ble_eq_true rfl) ?_
 unfold Bn at h
 conv => whnf
 refine CallQ.o Ae (by rfl) h (fun r h => Sn h) (fun r1 h => ?_)
 conv => whnf
 refine CallQ.o Ae (by rfl) h (fun r h => Ah5 h) (fun r2 h => ?_)
 conv => whnf
 refine BslQ.o Ae ([(1 : Int), (1 : Int), (2 : Int), (2 : Int), (2 : Int), (3 : Int), (0 : Int)]) (by exact fun _ => ⟨rfl, rfl⟩) (by rfl) ?_
 conv => whnf
 refine CallQ.io Ae (rP true (Ak false)) (by first | rfl | (simp only [Aa, Au, V.fz, fzL, Ab, Ac, slr]; done) | simp [Aa, Au, V.fz, fzL, V.up, upL, Ab, Ac, Ad, slr]) rfl (fun _ => rfl) (fun _ => ⟨rfl, rfl⟩) rfl h (fun r h => A8 h) (fun r3 u4 h => ?_)
 conv => whnf
 refine SetKids.lit rfl ?_
 conv => whnf
 refine Cells.lit rfl rfl ?_
 conv => whnf
 refine CallQ.o Ae (by rfl) h (fun r h => Gm h) (fun r5 h => ?_)
 conv => whnf
 refine LoopQ.o [6, 5, 1, 4, 0, 68] (F0 r2) (Jg r2) h (fun s o h => Px s o h) (by rfl) (fun _ => rfl) ?_
 rintro ⟨q10_5, q10_68⟩ h
 try dsimp only at h
 conv => whnf
 refine CallQ.io Ae (rP true (Ak false)) (by rfl) rfl (fun _ => rfl) (fun _ => ⟨rfl, rfl⟩) rfl h (fun r h => Aw h) (fun r11 u12 h => ?_)
 conv => whnf
 refine Br.oe h (fun p13 h => ?_) (fun p13 h => ?_)
 ·conv => whnf
  refine Cells.lit rfl rfl ?_
  conv => whnf
  refine Br.od h (fun p14 h => ?_) (fun p14 h => ?_)
  ·conv => whnf
   refine Cells.lit rfl rfl ?_
   conv => whnf
   refine Cells.lit rfl rfl ?_
   conv => whnf
   refine LendP.io Ae (rP true (Ak false)) (by rfl) (fun _ => rfl) (fun _ => ⟨rfl, rfl⟩) (fun _ => rfl) h (fun r h => Aw h) (fun r15 u16 h => ?_)
   conv => whnf
   refine CallQ.o (slr true 1 Ae) (by rfl) h (fun r h => Gi h) (fun r17 h => ?_)
   conv => whnf
   refine SetKids.lit rfl ?_
   conv => whnf
   refine Cells.lit rfl rfl ?_
   conv => whnf
   refine SetKids.lit rfl ?_
   conv => whnf
   cases h; exact ⟨(by rfl), (by rfl)⟩
  conv => whnf
  refine Cells.lit rfl rfl ?_
  conv => whnf
  refine SetKids.lit rfl ?_
  conv => whnf
  cases h; exact ⟨(by rfl), (by rfl)⟩
 conv => whnf
 refine Br.oe h (fun p18 h => ?_) (fun p18 h => ?_)
 ·conv => whnf
  refine Cells.lit rfl rfl ?_
  conv => whnf
  refine Cells.lit rfl rfl ?_
  conv => whnf
  obtain ⟨⟨r19, u20⟩, e24, h⟩ := Option.bind_eq_some_iff.1 h
  try dsimp only at h
  obtain ⟨⟨r21, u22⟩, e25, h⟩ := Option.bind_eq_some_iff.1 h
  try dsimp only at h
  obtain ⟨p26, h⟩ := Abl.1 h
  refine Two.mk ⟨?_, ?_⟩
  ·conv => whnf
   refine SameQ.mk ⟨rfl, ?_⟩
   conv => whnf
   refine Cells.lit rfl rfl ?_
   conv => whnf
   refine SameQ.mk ⟨rfl, ?_⟩
   conv => whnf
   refine SameQ.mk ⟨rfl, ?_⟩
   conv => whnf
   refine SameQ.mk ⟨rfl, ?_⟩
   conv => whnf
   refine Cells.lit rfl rfl ?_
   conv => whnf
   refine SameQ.mk ⟨rfl, ?_⟩
   conv => whnf
   refine SameQ.mk ⟨rfl, ?_⟩
   conv => whnf
   refine SameQ.mk ⟨rfl, ?_⟩
   conv => whnf
   refine Kid.lit rfl rfl ?_
   conv => whnf
   refine Len.map ?_
   conv => whnf
   refine Two.mk ⟨?_, ?_⟩
   ·conv => whnf
    refine SameQ.mk ⟨rfl, ?_⟩
    conv => whnf
    refine Cells.lit rfl rfl ?_
    conv => whnf
    refine SameQ.mk ⟨rfl, ?_⟩
    conv => whnf
    refine SameQ.mk ⟨rfl, ?_⟩
    conv => whnf
    refine SameQ.mk ⟨rfl, ?_⟩
    conv => whnf
    refine SameQ.mk ⟨rfl, ?_⟩
    conv => whnf
    refine CallQ.io Ae (rP true (Ak false)) (by rfl) rfl (fun _ => rfl) (fun _ => ⟨rfl, rfl⟩) rfl (show Option.bind (Ap (u12) ((↑q10_5.Table.length : Int))) some = some (r19, u20) by rw [e24]; rfl) (fun r h => Aw h) (fun b27 c28 hb => ?_)
    obtain ⟨rfl, rfl⟩ : r19 = b27 ∧ u20 = c28 := by cases hb; exact ⟨rfl, rfl⟩
    conv => whnf
    refine SameQ.mk ⟨rfl, ?_⟩
    conv => whnf
    refine Cells.lit rfl rfl ?_
    conv => whnf
    refine SameQ.mk ⟨rfl, ?_⟩
    conv => whnf
    refine SameQ.mk ⟨rfl, ?_⟩
    conv => whnf
    refine SameQ.mk ⟨rfl, ?_⟩
    conv => whnf
    refine BslQ.o Ae ([(-1 : Int), r2, (0 : Int)]) (by exact fun _ => ⟨rfl, rfl⟩) (by rfl) ?_
    conv => whnf
    refine SameQ.mk ⟨rfl, ?_⟩
    conv => whnf
    refine Cells.lit rfl rfl ?_
    conv => whnf
    refine SameQ.mk ⟨rfl, ?_⟩
    conv => whnf
    refine SameQ.mk ⟨rfl, ?_⟩
    conv => whnf
    refine CallQ.io Ae (rP true (Ak false)) (by first | rfl | (simp only [Aa, Au, V.fz, fzL, Ab, Ac, slr]; done) | simp [Aa, Au, V.fz, fzL, V.up, upL, Ab, Ac, Ad, slr]) rfl (fun _ => rfl) (fun _ => ⟨rfl, rfl⟩) rfl (show Option.bind (Ay (u20) ([(-1 : Int), r2, (0 : Int)])) some = some (r21, u22) by rw [e25]; rfl) (fun r h => A8 h) (fun b29 c30 hb => ?_)
    obtain ⟨rfl, rfl⟩ : r21 = b29 ∧ u22 = c30 := by cases hb; exact ⟨rfl, rfl⟩
    conv => whnf
    refine SameQ.mk ⟨rfl, ?_⟩
    conv => whnf
    refine Cells.lit rfl rfl ?_
    conv => whnf
    refine SameQ.mk ⟨rfl, ?_⟩
    conv => whnf
    refine Kid.lit rfl rfl ?_
    conv => whnf
    refine Len.map ?_
    conv => whnf
    refine Ask.mk p26 ?_
    conv => whnf
    refine Kid.lit rfl rfl ?_
    conv => whnf
    refine SetKids.one (fun _ => ⟨rfl, rfl⟩) (r21) (by rfl) (by first | omega | (simp [Bh] at * <;> omega)) ?_
    conv => whnf
    refine Kid.lit rfl rfl ?_
    conv => whnf
    refine SetKids.lit rfl ?_
    conv => whnf
    refine Cells.lit rfl rfl ?_
    conv => whnf
    refine SetKids.lit rfl ?_
    conv => whnf
    cases h; exact ⟨(by rfl), (by rfl)⟩
   conv => whnf
   refine SameQ.mk ⟨rfl, ?_⟩
   conv => whnf
   refine Cells.lit rfl rfl ?_
   conv => whnf
   refine SameQ.mk ⟨rfl, ?_⟩
   conv => whnf
   refine SameQ.mk ⟨rfl, ?_⟩
   conv => whnf
   refine SameQ.mk ⟨rfl, ?_⟩
   conv => whnf
   refine SameQ.mk ⟨rfl, ?_⟩
   conv => whnf
   refine BslQ.o Ae ([(-1 : Int), r2, (0 : Int)]) (by exact fun _ => ⟨rfl, rfl⟩) (by rfl) ?_
   conv => whnf
   refine SameQ.mk ⟨rfl, ?_⟩
   conv => whnf
   refine Cells.lit rfl rfl ?_
   conv => whnf
   refine SameQ.mk ⟨rfl, ?_⟩
   conv => whnf
   refine SameQ.mk ⟨rfl, ?_⟩
   conv => whnf
   refine SameQ.mk ⟨rfl, ?_⟩
   conv => whnf
   refine CallQ.io Ae (rP true (Ak false)) (by rfl) rfl (fun _ => rfl) (fun _ => ⟨rfl, rfl⟩) rfl (show Option.bind (Ap (u12) ((↑q10_5.Table.length : Int))) some = some (r19, u20) by rw [e24]; rfl) (fun r h => Aw h) (fun b31 c32 hb => ?_)
   obtain ⟨rfl, rfl⟩ : r19 = b31 ∧ u20 = c32 := by cases hb; exact ⟨rfl, rfl⟩
   conv => whnf
   refine SameQ.mk ⟨rfl, ?_⟩
   conv => whnf
   refine Cells.lit rfl rfl ?_
   conv => whnf
   refine SameQ.mk ⟨rfl, ?_⟩
   conv => whnf
   refine SameQ.mk ⟨rfl, ?_⟩
   conv => whnf
   refine CallQ.io Ae (rP true (Ak false)) (by first | rfl | (simp only [Aa, Au, V.fz, fzL, Ab, Ac, slr]; done) | simp [Aa, Au, V.fz, fzL, V.up, upL, Ab, Ac, Ad, slr]) rfl (fun _ => rfl) (fun _ => ⟨rfl, rfl⟩) rfl (show Option.bind (Ay (u20) ([(-1 : Int), r2, (0 : Int)])) some = some (r21, u22) by rw [e25]; rfl) (fun r h => A8 h) (fun b33 c34 hb => ?_)
   obtain ⟨rfl, rfl⟩ : r21 = b33 ∧ u22 = c34 := by cases hb; exact ⟨rfl, rfl⟩
   conv => whnf
   refine SameQ.mk ⟨rfl, ?_⟩
   conv => whnf
   refine Cells.lit rfl rfl ?_
   conv => whnf
   refine SameQ.mk ⟨rfl, ?_⟩
   conv => whnf
   refine Kid.lit rfl rfl ?_
   conv => whnf
   refine Len.map ?_
   conv => whnf
   refine Ask.mk p26 ?_
   conv => whnf
   refine Kid.lit rfl rfl ?_
   conv => whnf
   refine SetKids.one (fun _ => ⟨rfl, rfl⟩) (r21) (by rfl) (by first | omega | (simp [Bh] at * <;> omega)) ?_
   conv => whnf
   refine Kid.lit rfl rfl ?_
   conv => whnf
   refine SetKids.lit rfl ?_
   conv => whnf
   refine Cells.lit rfl rfl ?_
   conv => whnf
   refine SetKids.lit rfl ?_
   conv => whnf
   cases h; exact ⟨(by rfl), (by rfl)⟩
  conv => whnf
  refine SameQ.mk ⟨rfl, ?_⟩
  conv => whnf
  refine Cells.lit rfl rfl ?_
  conv => whnf
  refine SameQ.mk ⟨rfl, ?_⟩
  conv => whnf
  refine SameQ.mk ⟨rfl, ?_⟩
  conv => whnf
  refine SameQ.mk ⟨rfl, ?_⟩
  conv => whnf
  refine Cells.lit rfl rfl ?_
  conv => whnf
  refine SameQ.mk ⟨rfl, ?_⟩
  conv => whnf
  refine SameQ.mk ⟨rfl, ?_⟩
  conv => whnf
  refine SameQ.mk ⟨rfl, ?_⟩
  conv => whnf
  refine BslQ.o Ae ([(-1 : Int), r2, (0 : Int)]) (by exact fun _ => ⟨rfl, rfl⟩) (by rfl) ?_
  conv => whnf
  refine SameQ.mk ⟨rfl, ?_⟩
  conv => whnf
  refine Cells.lit rfl rfl ?_
  conv => whnf
  refine SameQ.mk ⟨rfl, ?_⟩
  conv => whnf
  refine SameQ.mk ⟨rfl, ?_⟩
  conv => whnf
  refine SameQ.mk ⟨rfl, ?_⟩
  conv => whnf
  refine Cells.lit rfl rfl ?_
  conv => whnf
  refine SameQ.mk ⟨rfl, ?_⟩
  conv => whnf
  refine SameQ.mk ⟨rfl, ?_⟩
  conv => whnf
  refine Kid.lit rfl rfl ?_
  conv => whnf
  refine Len.map ?_
  conv => whnf
  refine SameQ.mk ⟨rfl, ?_⟩
  conv => whnf
  refine Cells.lit rfl rfl ?_
  conv => whnf
  refine SameQ.mk ⟨rfl, ?_⟩
  conv => whnf
  refine SameQ.mk ⟨rfl, ?_⟩
  conv => whnf
  refine SameQ.mk ⟨rfl, ?_⟩
  conv => whnf
  refine CallQ.io Ae (rP true (Ak false)) (by rfl) rfl (fun _ => rfl) (fun _ => ⟨rfl, rfl⟩) rfl (show Option.bind (Ap (u12) ((↑q10_5.Table.length : Int))) some = some (r19, u20) by rw [e24]; rfl) (fun r h => Aw h) (fun b35 c36 hb => ?_)
  obtain ⟨rfl, rfl⟩ : r19 = b35 ∧ u20 = c36 := by cases hb; exact ⟨rfl, rfl⟩
  conv => whnf
  refine SameQ.mk ⟨rfl, ?_⟩
  conv => whnf
  refine Cells.lit rfl rfl ?_
  conv => whnf
  refine SameQ.mk ⟨rfl, ?_⟩
  conv => whnf
  refine SameQ.mk ⟨rfl, ?_⟩
  conv => whnf
  refine CallQ.io Ae (rP true (Ak false)) (by first | rfl | (simp only [Aa, Au, V.fz, fzL, Ab, Ac, slr]; done) | simp [Aa, Au, V.fz, fzL, V.up, upL, Ab, Ac, Ad, slr]) rfl (fun _ => rfl) (fun _ => ⟨rfl, rfl⟩) rfl (show Option.bind (Ay (u20) ([(-1 : Int), r2, (0 : Int)])) some = some (r21, u22) by rw [e25]; rfl) (fun r h => A8 h) (fun b37 c38 hb => ?_)
  obtain ⟨rfl, rfl⟩ : r21 = b37 ∧ u22 = c38 := by cases hb; exact ⟨rfl, rfl⟩
  conv => whnf
  refine SameQ.mk ⟨rfl, ?_⟩
  conv => whnf
  refine Cells.lit rfl rfl ?_
  conv => whnf
  refine SameQ.mk ⟨rfl, ?_⟩
  conv => whnf
  refine Kid.lit rfl rfl ?_
  conv => whnf
  refine Len.map ?_
  conv => whnf
  refine Ask.mk p26 ?_
  conv => whnf
  refine Kid.lit rfl rfl ?_
  conv => whnf
  refine SetKids.one (fun _ => ⟨rfl, rfl⟩) (r21) (by rfl) (by first | omega | (simp [Bh] at * <;> omega)) ?_
  conv => whnf
  refine Kid.lit rfl rfl ?_
  conv => whnf
  refine SetKids.lit rfl ?_
  conv => whnf
  refine Cells.lit rfl rfl ?_
  conv => whnf
  refine SetKids.lit rfl ?_
  conv => whnf
  cases h; exact ⟨(by rfl), (by rfl)⟩
 conv => whnf
 refine Br.oe h (fun p39 h => ?_) (fun p39 h => ?_)
 ·conv => whnf
  refine Cells.lit rfl rfl ?_
  conv => whnf
  refine BslQ.o Ae ([(0 : Int)]) (by exact fun _ => ⟨rfl, rfl⟩) (by rfl) ?_
  conv => whnf
  refine NoOwn.o (fun _ => rfl) ?_
  conv => whnf
  refine Kid.lit rfl rfl ?_
  conv => whnf
  refine Kid.lit rfl rfl ?_
  conv => whnf
  refine SetKids.lit rfl ?_
  conv => whnf
  refine AppQ.o (m := 1) Ae (by exact fun _ => ⟨rfl, rfl⟩) (q10_5.Table) ([(0 : Int)]) (by rfl) (by rfl) h fun h => ?_
  conv => whnf
  refine SetKids.lit rfl ?_
  conv => whnf
  refine Cells.lit rfl rfl ?_
  conv => whnf
  refine SetKids.lit rfl ?_
  conv => whnf
  cases h; exact ⟨(by rfl), (by rfl)⟩
 conv => whnf
 refine Cells.lit rfl rfl ?_
 conv => whnf
 refine SetKids.lit rfl ?_
 conv => whnf
 cases h; exact ⟨(by rfl), (by rfl)⟩
noncomputable def Dm (c0 : Sl1Cur) : Option (Int × Sl1Cur) :=
 (Ap (c0) ((24 : Int))).bind fun (r1, u2) =>
 ask ((11 : Int) ≠ (0 : Int) ∧ InI (r1.tdiv (11 : Int))) <|
 ask (InI ((6 : Int) + r1.tdiv (11 : Int))) <|
 ask (0 ≤ (0 : Int) ∧ (0 : Int) ≤ (6 : Int) + r1.tdiv (11 : Int) ∧ (6 : Int) + r1.tdiv (11 : Int) ≤ (([(1 : Int), (1 : Int), (2 : Int), (2 : Int), (2 : Int), (3 : Int), (0 : Int), (4 : Int)].length : Nat) : Int)) <|
 (Ay (u2) (List.take (((6 : Int) + r1.tdiv (11 : Int)).toNat - Int.toNat (0 : Int)) (List.drop (Int.toNat (0 : Int)) [(1 : Int), (1 : Int), (2 : Int), (2 : Int), (2 : Int), (3 : Int), (0 : Int), (4 : Int)]))).bind fun (r5, u6) =>
 some (r5, u6)
theorem Nx {c0 : Sl1Cur} {v : (Int × Sl1Cur)} (h : Dm c0 = some v) : Sm Try.prog Gk [(rP true (Ak false)) c0] (Ae v.1) 0 ((rP true (Ak false)) v.2) := by
 refine Oz Wm (Nat.le_of_ble_eq_true rfl) ?_
 unfold Dm at h
 conv => whnf
 refine BslQ.o Ae ([(1 : Int), (1 : Int), (2 : Int), (2 : Int), (2 : Int), (3 : Int), (0 : Int), (4 : Int)]) (by exact fun _ => ⟨rfl, rfl⟩) (by rfl) ?_
 conv => whnf
 refine CallQ.io Ae (rP true (Ak false)) (by rfl) rfl (fun _ => rfl) (fun _ => ⟨rfl, rfl⟩) rfl h (fun r h => Aw h) (fun r1 u2 h => ?_)
 conv => whnf
 refine Ask.o h fun p3 h => ?_
 conv => whnf
 refine Ask.o h fun p4 h => ?_
 conv => whnf
 refine SlcQ.lst (xs := [(1 : Int), (1 : Int), (2 : Int), (2 : Int), (2 : Int), (3 : Int), (0 : Int), (4 : Int)]) Ae (by rfl) h fun h => ?_
 conv => whnf
 refine CallQ.io Ae (rP true (Ak false)) (by rfl) rfl (fun _ => rfl) (fun _ => ⟨rfl, rfl⟩) rfl h (fun r h => A8 h) (fun r5 u6 h => ?_)
 conv => whnf
 cases h; exact ⟨(by rfl), (by rfl)⟩
end Go.Proofs.Ytoaojijoefljaaa.Ax
