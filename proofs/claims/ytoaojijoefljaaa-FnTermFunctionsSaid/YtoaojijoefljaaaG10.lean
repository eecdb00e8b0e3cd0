/-
 What the functions compute, as functions on plain data, and that the program does compute it; written by program.
-/
import Derived.Test.YtoaojijoefljaaaCode
import Derived.Test.YtoaojijoefljaaaG1
import Derived.Test.YtoaojijoefljaaaG2
import Derived.Test.YtoaojijoefljaaaG3
import Derived.Test.YtoaojijoefljaaaG6
import Derived.Test.YtoaojijoefljaaaG7
namespace Go.Proofs.Ytoaojijoefljaaa.Ax
open Go
set_option maxRecDepth 100000
set_option maxHeartbeats 4000000
noncomputable def Bv (a0 : SAlgebra) (k0 : Int) : Option ((Option Sfound) × Bool) :=
 (((Ct (a0)).bind fun r1 =>
 if (r1) = true then
 (B0 (a0.Size) (k0)).bind fun r3 =>
 if (r3) = true then
 some (.inl ())
 else
 some (.inr ())
 else
 some (.inr ()) : Option (Unit ⊕ Unit))).bind fun t => match t with
 | (.inl _) => ((Ga (a0.Size) (a0.Ops) (k0)).bind fun t => match t with
 | (none, r6_2) => (some (none, r6_2))
 | ((some r6_1), r6_2) => (some (some r6_1, r6_2)))
 | (.inr _) => (some (none, false))
theorem Fs {a0 : SAlgebra} {k0 : Int} {v : ((Option Sfound) × Bool)} (h : Bv a0 k0 = some v) : Ret Try.prog Db [(Aj false) a0, Ae k0] ((fun r => V.tup [(rO false (Cq false)) r.1, V.bool r.2]) v) := by
 refine T9 Tw (Nat.le_of_ble_eq_true rfl) ?_
 unfold Bv at h
 conv => whnf
 refine CutQ.o (fun t : (Unit ⊕ Unit) => match t with | (.inl s) => (Ex.normal, [2, 1], [(2, A.val ((rP true (Aj false)) (a0))), (1, A.val (Ae (k0)))]) | (.inr s) => (Ex.ret, [5, 4], [(5, A.val (V.bool (false))), (4, A.val V.nilp.up)])) h ?_ ?_
 ·intro t h
  conv => whnf
  refine Cells.lit rfl rfl ?_
  conv => whnf
  refine CallQ.o V.bool (by first | rfl | simp only [Aa, V.fz, fzL, V.up, upL, Ab, Ac, Ad, slr, List.cons_append, List.nil_append] | simp [Aa, V.fz, fzL, V.up, upL, Ab, Ac, Ad, slr]) h (fun r h => H9 h) (fun r1 h => ?_)
  conv => whnf
  refine Br.flip ?_
  conv => whnf
  refine Br.ob h (fun p2 h => ?_) (fun p2 h => ?_)
  ·conv => whnf
   refine Br.no ?_
   conv => whnf
   refine Cells.lit rfl rfl ?_
   conv => whnf
   refine Br.no ?_
   conv => whnf
   refine Br.no ?_
   conv => whnf
   refine CallQ.o V.bool (by first | rfl | simp only [Aa, V.fz, fzL, V.up, upL, Ab, Ac, Ad, slr, List.cons_append, List.nil_append] | simp [Aa, V.fz, fzL, V.up, upL, Ab, Ac, Ad, slr]) h (fun r h => F5 h) (fun r3 h => ?_)
   conv => whnf
   refine Br.no ?_
   conv => whnf
   refine Br.no ?_
   conv => whnf
   refine Br.flip ?_
   conv => whnf
   refine Br.ob h (fun p4 h => ?_) (fun p4 h => ?_)
   ·conv => whnf
    cases h; exact ⟨rfl, rfl⟩
   conv => whnf
   cases h; exact ⟨rfl, rfl⟩
  conv => whnf
  refine Br.yes ?_
  conv => whnf
  refine Br.yes ?_
  conv => whnf
  refine Br.yes ?_
  conv => whnf
  refine Br.yes ?_
  conv => whnf
  refine Br.yes ?_
  conv => whnf
  refine Br.yes ?_
  conv => whnf
  cases h; exact ⟨rfl, rfl⟩
 rintro (⟨⟩ | ⟨⟩) h
 ·try dsimp only at h
  conv => whnf
  refine Cells.lit rfl rfl ?_
  conv => whnf
  refine Cells.lit rfl rfl ?_
  conv => whnf
  refine CallQ.o (fun r => V.tup [(rO false (Cq false)) r.1, V.bool r.2]) (by first | rfl | simp only [Aa, V.fz, fzL, V.up, upL, Ab, Ac, Ad, slr, List.cons_append, List.nil_append] | simp [Aa, V.fz, fzL, V.up, upL, Ab, Ac, Ad, slr]) h (fun r h => Adw h) (fun r6 h => ?_)
  rcases r6 with ⟨(_ | r6_1), r6_2⟩
  ·try dsimp only at h
   conv => whnf
   cases h; exact (by first | rfl | simp only [Ah, Aa, V.fz, fzL, V.up, upL, Ab, Ac, Ad, slr] | simp [Ah, Aa, V.fz, fzL, V.up, upL, Ab, Ac, Ad, slr])
  try dsimp only at h
  conv => whnf
  cases h; exact (by first | rfl | simp only [Ah, Aa, V.fz, fzL, V.up, upL, Ab, Ac, Ad, slr] | simp [Ah, Aa, V.fz, fzL, V.up, upL, Ab, Ac, Ad, slr])
 try dsimp only at h
 conv => whnf
 cases h; exact (by first | rfl | simp only [Ah, Aa, V.fz, fzL, V.up, upL, Ab, Ac, Ad, slr] | simp [Ah, Aa, V.fz, fzL, V.up, upL, Ab, Ac, Ad, slr])
noncomputable def Ia (a0 : SAlgebra) (f0 : SOp) : Option Bool :=
 (F0 (a0)).bind fun r1 =>
 if (r1) = true then
 (Dx (a0.Size) (f0.Arity)).bind fun r3 =>
 if (r3) = true then
 (Hl (a0.Size) (f0)).bind fun r5 =>
 some r5
 else
 some false
 else
 some false
theorem Yg {a0 : SAlgebra} {f0 : SOp} {v : Bool} (h : Ia a0 f0 = some v) : Ret Try.prog Nc [(Aj false) a0, (Ak false) f0] (V.bool v) := by
 refine Bm Ahh (Nat.le_of_ble_eq_true rfl) ?_
 unfold Ia at h
 conv => whnf
 refine Cells.lit rfl rfl ?_
 conv => whnf
 refine CallQ.o V.bool (by first | rfl | simp only [Aa, V.fz, fzL, V.up, upL, Ab, Ac, Ad, slr, List.cons_append, List.nil_append] | simp [Aa, V.fz, fzL, V.up, upL, Ab, Ac, Ad, slr]) h (fun r h => Qi h) (fun r1 h => ?_)
 conv => whnf
 refine Br.ob h (fun p2 h => ?_) (fun p2 h => ?_)
 ·conv => whnf
  refine Br.yes ?_
  conv => whnf
  refine Cells.lit rfl rfl ?_
  conv => whnf
  refine Br.yes ?_
  conv => whnf
  refine Br.yes ?_
  conv => whnf
  refine Cells.lit rfl rfl ?_
  conv => whnf
  refine Br.yes ?_
  conv => whnf
  refine CallQ.o V.bool (by first | rfl | simp only [Aa, V.fz, fzL, V.up, upL, Ab, Ac, Ad, slr, List.cons_append, List.nil_append] | simp [Aa, V.fz, fzL, V.up, upL, Ab, Ac, Ad, slr]) h (fun r h => Lm h) (fun r3 h => ?_)
  conv => whnf
  refine Br.yes ?_
  conv => whnf
  refine Br.ob h (fun p4 h => ?_) (fun p4 h => ?_)
  ·conv => whnf
   refine Br.yes ?_
   conv => whnf
   refine Cells.lit rfl rfl ?_
   conv => whnf
   refine Br.yes ?_
   conv => whnf
   refine Cells.lit rfl rfl ?_
   conv => whnf
   refine Br.yes ?_
   conv => whnf
   refine CallQ.o V.bool (by first | rfl | simp only [Aa, V.fz, fzL, V.up, upL, Ab, Ac, Ad, slr, List.cons_append, List.nil_append] | simp [Aa, V.fz, fzL, V.up, upL, Ab, Ac, Ad, slr]) h (fun r h => Abk h) (fun r5 h => ?_)
   conv => whnf
   refine Br.yes ?_
   conv => whnf
   cases h; exact (by first | rfl | simp only [Ah, Aa, V.fz, fzL, V.up, upL, Ab, Ac, Ad, slr] | simp [Ah, Aa, V.fz, fzL, V.up, upL, Ab, Ac, Ad, slr])
  conv => whnf
  refine Br.no ?_
  conv => whnf
  refine Br.no ?_
  conv => whnf
  refine Br.no ?_
  conv => whnf
  refine Br.no ?_
  conv => whnf
  cases h; exact (by first | rfl | simp only [Ah, Aa, V.fz, fzL, V.up, upL, Ab, Ac, Ad, slr] | simp [Ah, Aa, V.fz, fzL, V.up, upL, Ab, Ac, Ad, slr])
 conv => whnf
 refine Br.no ?_
 conv => whnf
 refine Br.no ?_
 conv => whnf
 refine Br.no ?_
 conv => whnf
 refine Br.no ?_
 conv => whnf
 refine Br.no ?_
 conv => whnf
 refine Br.no ?_
 conv => whnf
 refine Br.no ?_
 conv => whnf
 refine Br.no ?_
 conv => whnf
 refine Br.no ?_
 conv => whnf
 refine Br.no ?_
 conv => whnf
 cases h; exact (by first | rfl | simp only [Ah, Aa, V.fz, fzL, V.up, upL, Ab, Ac, Ad, slr] | simp [Ah, Aa, V.fz, fzL, V.up, upL, Ab, Ac, Ad, slr])
noncomputable def Cm (r2 : Int) : (Int × SOp × Sl1Cur) → Option ((Int × SOp × Sl1Cur) ⊕ (SOp × Sl1Cur)) := fun (x6, x5, x68) =>
 if x6 > (0 : Int) then
 (Av (x68) (r2)).bind fun (r7, u8) =>
 ask ((x5.Table).length + ([r7]).length ≤ LIM) <|
 ask (InI (x6 - (1 : Int))) <|
 some (.inl (x6 - (1 : Int), { Arity := x5.Arity, Table := x5.Table ++ [r7] }, u8))
 else
 some (.inr (x5, x68))
def Fc (r2 : Int) : (Int × SOp × Sl1Cur) → St := fun s => [(6, A.val (Ae s.1)), (5, A.val ((rP true (Ak true)) s.2.1)), (1, A.val (Ae (r2))), (4, A.val ((rP true (Ak true)) ({ Arity := (0 : Int), Table := Ar Int }))), (0, A.ref 68 []), (68, A.val ((rP true (Am false)) s.2.2))]
def Hr (r2 : Int) : (SOp × Sl1Cur) → Tgt
 | s => ((Ex.exit 0), [5, 1, 4, 0, 68], [(5, A.val ((rP true (Ak true)) s.1)), (1, A.val (Ae (r2))), (4, A.val ((rP true (Ak true)) ({ Arity := (0 : Int), Table := Ar Int }))), (0, A.ref 68 []), (68, A.val ((rP true (Am false)) s.2))])
theorem Nn {r2 : Int} (s : (Int × SOp × Sl1Cur)) (o : (Int × SOp × Sl1Cur) ⊕ (SOp × Sl1Cur)) (h : Cm r2 s = some o) : vc Try.prog Hw (Ef [6, 5, 1, 4, 0, 68] (Fc r2) (Hr r2) o) (Fc r2 s) := by
 obtain ⟨x6, x5, x68⟩ := s
 unfold Cm at h
 try dsimp only at h
 conv => whnf
 refine Br.od h (fun p6 h => ?_) (fun p6 h => ?_)
 ·conv => whnf
  refine Cells.lit rfl rfl ?_
  conv => whnf
  refine LendP.io Ae (rP true (Am false)) (by first | rfl | simp only [Aa, V.fz, fzL, V.up, upL, Ab, Ac, Ad, slr, List.cons_append, List.nil_append] | simp [Aa, V.fz, fzL, V.up, upL, Ab, Ac, Ad, slr]) (fun _ => rfl) (fun _ => ⟨rfl, rfl⟩) (fun _ => rfl) h (fun r h => A7 h) (fun r7 u8 h => ?_)
  conv => whnf
  refine BslQ.o Ae [r7] (by exact fun _ => ⟨rfl, rfl⟩) (by first | rfl | simp only [Aa, V.fz, fzL, V.up, upL, Ab, Ac, Ad, slr, List.cons_append, List.nil_append] | simp [Aa, V.fz, fzL, V.up, upL, Ab, Ac, Ad, slr]) ?_
  conv => whnf
  refine NoOwn.o (fun _ => rfl) ?_
  conv => whnf
  refine Kid.lit rfl rfl ?_
  conv => whnf
  refine Kid.lit rfl rfl ?_
  conv => whnf
  refine SetKids.lit rfl ?_
  conv => whnf
  refine AppQ.o (m := 1) Ae (by exact fun _ => ⟨rfl, rfl⟩) (x5.Table) ([r7]) (by first | rfl | simp only [Aa, V.fz, fzL, V.up, upL, Ab, Ac, Ad, slr, List.cons_append, List.nil_append] | simp [Aa, V.fz, fzL, V.up, upL, Ab, Ac, Ad, slr]) (by first | rfl | simp only [Aa, V.fz, fzL, V.up, upL, Ab, Ac, Ad, slr, List.cons_append, List.nil_append] | simp [Aa, V.fz, fzL, V.up, upL, Ab, Ac, Ad, slr]) h fun h => ?_
  conv => whnf
  refine SetKids.lit rfl ?_
  conv => whnf
  refine Ask.o h fun p9 h => ?_
  conv => whnf
  cases h; exact ⟨rfl, rfl⟩
 conv => whnf
 cases h; exact ⟨rfl, rfl⟩
noncomputable def Ci (c0 : Sl1Cur) (n0 : Int) : Option (SOp × Sl1Cur) :=
 (I8 (n0) ((1 : Int))).bind fun r1 =>
 (Hx (r1) ((4 : Int))).bind fun r2 =>
 (A6 (c0) ([(1 : Int), (1 : Int), (2 : Int), (2 : Int), (2 : Int), (3 : Int), (0 : Int)])).bind fun (r3, u4) =>
 (Cu (r2) (r3)).bind fun r5 =>
 (At (Cm r2) (r5, { Arity := r3, Table := Ar Int }, u4)).bind fun (q10_5, q10_68) =>
 (Av (q10_68) ((12 : Int))).bind fun (r11, u12) =>
 if r11 = (0 : Int) then
 if q10_5.Arity > (0 : Int) then
 (Av (u12) (q10_5.Arity)).bind fun (r15, u16) =>
 (C8 (r2) (q10_5.Arity) (r15)).bind fun r17 =>
 some ({ Arity := q10_5.Arity, Table := r17 }, u16)
 else
 some (q10_5, u12)
 else
 if r11 = (1 : Int) then
 (Av (u12) ((↑q10_5.Table.length : Int))).bind fun (r19, u20) =>
 (A6 (u20) ([(-1 : Int), r2, (0 : Int)])).bind fun (r21, u22) =>
 ask ((0 : Int) ≤ r19 ∧ r19 < (↑q10_5.Table.length : Int)) <|
 some ({ Arity := q10_5.Arity, Table := q10_5.Table.set r19.toNat r21 }, u22)
 else
 if r11 = (2 : Int) then
 ask ((q10_5.Table).length + ([(0 : Int)]).length ≤ LIM) <|
 some ({ Arity := q10_5.Arity, Table := q10_5.Table ++ [(0 : Int)] }, u12)
 else
 some (q10_5, u12)
theorem Qo {c0 : Sl1Cur} {n0 : Int} {v : (SOp × Sl1Cur)} (h : Ci c0 n0 = some v) : P7 Try.prog Gl [(rP true (Am false)) c0, Ae n0] ((Ak true) v.1) 0 ((rP true (Am false)) v.2) := by
 refine M8 Rl (Nat.le_of_ble_eq_true rfl) ?_
 unfold Ci at h
 conv => whnf
 refine CallQ.o Ae (by first | rfl | simp only [Aa, V.fz, fzL, V.up, upL, Ab, Ac, Ad, slr, List.cons_append, List.nil_append] | simp [Aa, V.fz, fzL, V.up, upL, Ab, Ac, Ad, slr]) h (fun r h => Ae9 h) (fun r1 h => ?_)
 conv => whnf
 refine CallQ.o Ae (by first | rfl | simp only [Aa, V.fz, fzL, V.up, upL, Ab, Ac, Ad, slr, List.cons_append, List.nil_append] | simp [Aa, V.fz, fzL, V.up, upL, Ab, Ac, Ad, slr]) h (fun r h => Aeh h) (fun r2 h => ?_)
 conv => whnf
 refine BslQ.o Ae ([(1 : Int), (1 : Int), (2 : Int), (2 : Int), (2 : Int), (3 : Int), (0 : Int)]) (by exact fun _ => ⟨rfl, rfl⟩) (by first | rfl | simp only [Aa, V.fz, fzL, V.up, upL, Ab, Ac, Ad, slr, List.cons_append, List.nil_append] | simp [Aa, V.fz, fzL, V.up, upL, Ab, Ac, Ad, slr]) ?_
 conv => whnf
 refine CallQ.io Ae (rP true (Am false)) (by first | rfl | (simp only [Aa, Aq, V.fz, fzL, Ab, Ac, slr]; done) | simp [Aa, Aq, V.fz, fzL, V.up, upL, Ab, Ac, Ad, slr]) rfl (fun _ => rfl) (fun _ => ⟨rfl, rfl⟩) rfl h (fun r h => Bh h) (fun r3 u4 h => ?_)
 conv => whnf
 refine SetKids.lit rfl ?_
 conv => whnf
 refine Cells.lit rfl rfl ?_
 conv => whnf
 refine CallQ.o Ae (by first | rfl | simp only [Aa, V.fz, fzL, V.up, upL, Ab, Ac, Ad, slr, List.cons_append, List.nil_append] | simp [Aa, V.fz, fzL, V.up, upL, Ab, Ac, Ad, slr]) h (fun r h => Id h) (fun r5 h => ?_)
 conv => whnf
 refine LoopQ.o [6, 5, 1, 4, 0, 68] (Fc r2) (Hr r2) h (fun s o h => Nn s o h) (by first | rfl | simp [restrict, look, Aa, V.fz, fzL, V.up, upL, Ab, Ac, Ad, slr]) (fun _ => rfl) ?_
 rintro ⟨q10_5, q10_68⟩ h
 try dsimp only at h
 conv => whnf
 refine CallQ.io Ae (rP true (Am false)) (by first | rfl | simp only [Aa, V.fz, fzL, V.up, upL, Ab, Ac, Ad, slr, List.cons_append, List.nil_append] | simp [Aa, V.fz, fzL, V.up, upL, Ab, Ac, Ad, slr]) rfl (fun _ => rfl) (fun _ => ⟨rfl, rfl⟩) rfl h (fun r h => A7 h) (fun r11 u12 h => ?_)
 conv => whnf
 refine Br.oe h (fun p13 h => ?_) (fun p13 h => ?_)
 ·conv => whnf
  refine Cells.lit rfl rfl ?_
  conv => whnf
  refine Br.od h (fun p14 h => ?_) (fun p14 h => ?_)
  ·conv => whnf
   refine Cells.lit rfl rfl ?_
   conv => whnf
   refine Cells.lit rfl rfl ?_
   conv => whnf
   refine LendP.io Ae (rP true (Am false)) (by first | rfl | simp only [Aa, V.fz, fzL, V.up, upL, Ab, Ac, Ad, slr, List.cons_append, List.nil_append] | simp [Aa, V.fz, fzL, V.up, upL, Ab, Ac, Ad, slr]) (fun _ => rfl) (fun _ => ⟨rfl, rfl⟩) (fun _ => rfl) h (fun r h => A7 h) (fun r15 u16 h => ?_)
   conv => whnf
   refine CallQ.o (slr true 1 Ae) (by first | rfl | simp only [Aa, V.fz, fzL, V.up, upL, Ab, Ac, Ad, slr, List.cons_append, List.nil_append] | simp [Aa, V.fz, fzL, V.up, upL, Ab, Ac, Ad, slr]) h (fun r h => L3 h) (fun r17 h => ?_)
   conv => whnf
   refine SetKids.lit rfl ?_
   conv => whnf
   refine Cells.lit rfl rfl ?_
   conv => whnf
   refine SetKids.lit rfl ?_
   conv => whnf
   cases h; exact ⟨(by first | rfl | simp only [Ah, Aa, V.fz, fzL, V.up, upL, Ab, Ac, Ad, slr] | simp [Ah, Aa, V.fz, fzL, V.up, upL, Ab, Ac, Ad, slr]), (by first | rfl | simp only [Ah, Aa, V.fz, fzL, V.up, upL, Ab, Ac, Ad, slr] | simp [Ah, Aa, V.fz, fzL, V.up, upL, Ab, Ac, Ad, slr])⟩
  conv => whnf
  refine Cells.lit rfl rfl ?_
  conv => whnf
  refine SetKids.lit rfl ?_
  conv => whnf
  cases h; exact ⟨(by first | rfl | simp only [Ah, Aa, V.fz, fzL, V.up, upL, Ab, Ac, Ad, slr] | simp [Ah, Aa, V.fz, fzL, V.up, upL, Ab, Ac, Ad, slr]), (by first | rfl | simp only [Ah, Aa, V.fz, fzL, V.up, upL, Ab, Ac, Ad, slr] | simp [Ah, Aa, V.fz, fzL, V.up, upL, Ab, Ac, Ad, slr])⟩
 conv => whnf
 refine Br.oe h (fun p18 h => ?_) (fun p18 h => ?_)
 ·conv => whnf
  refine Cells.lit rfl rfl ?_
  conv => whnf
  refine Cells.lit rfl rfl ?_
  conv => whnf
  obtain ⟨⟨r19, u20⟩, e24, h⟩ := Option.bind_eq_some_iff.1 h
  try dsimp only at h
  obtain ⟨⟨r21, u22⟩, e25, h⟩ := Option.bind_eq_some_iff.1 h
  try dsimp only at h
  obtain ⟨p26, h⟩ := Ye.1 h
  refine Two.mk ⟨?_, ?_⟩
  ·conv => whnf
   refine SameQ.mk ⟨rfl, ?_⟩
   conv => whnf
   refine Cells.lit rfl rfl ?_
   conv => whnf
   refine SameQ.mk ⟨rfl, ?_⟩
   conv => whnf
   refine SameQ.mk ⟨rfl, ?_⟩
   conv => whnf
   refine SameQ.mk ⟨rfl, ?_⟩
   conv => whnf
   refine Cells.lit rfl rfl ?_
   conv => whnf
   refine SameQ.mk ⟨rfl, ?_⟩
   conv => whnf
   refine SameQ.mk ⟨rfl, ?_⟩
   conv => whnf
   refine SameQ.mk ⟨rfl, ?_⟩
   conv => whnf
   refine Kid.lit rfl rfl ?_
   conv => whnf
   refine Len.map ?_
   conv => whnf
   refine Two.mk ⟨?_, ?_⟩
   ·conv => whnf
    refine SameQ.mk ⟨rfl, ?_⟩
    conv => whnf
    refine Cells.lit rfl rfl ?_
    conv => whnf
    refine SameQ.mk ⟨rfl, ?_⟩
    conv => whnf
    refine SameQ.mk ⟨rfl, ?_⟩
    conv => whnf
    refine SameQ.mk ⟨rfl, ?_⟩
    conv => whnf
    refine SameQ.mk ⟨rfl, ?_⟩
    conv => whnf
    refine CallQ.io Ae (rP true (Am false)) (by first | rfl | simp only [Aa, V.fz, fzL, V.up, upL, Ab, Ac, Ad, slr, List.cons_append, List.nil_append] | simp [Aa, V.fz, fzL, V.up, upL, Ab, Ac, Ad, slr]) rfl (fun _ => rfl) (fun _ => ⟨rfl, rfl⟩) rfl (show Option.bind (Av (u12) ((↑q10_5.Table.length : Int))) some = some (r19, u20) by rw [e24]; rfl) (fun r h => A7 h) (fun b27 c28 hb => ?_)
    obtain ⟨rfl, rfl⟩ : r19 = b27 ∧ u20 = c28 := by cases hb; exact ⟨rfl, rfl⟩
    conv => whnf
    refine SameQ.mk ⟨rfl, ?_⟩
    conv => whnf
    refine Cells.lit rfl rfl ?_
    conv => whnf
    refine SameQ.mk ⟨rfl, ?_⟩
    conv => whnf
    refine SameQ.mk ⟨rfl, ?_⟩
    conv => whnf
    refine SameQ.mk ⟨rfl, ?_⟩
    conv => whnf
    refine BslQ.o Ae ([(-1 : Int), r2, (0 : Int)]) (by exact fun _ => ⟨rfl, rfl⟩) (by first | rfl | simp only [Aa, V.fz, fzL, V.up, upL, Ab, Ac, Ad, slr, List.cons_append, List.nil_append] | simp [Aa, V.fz, fzL, V.up, upL, Ab, Ac, Ad, slr]) ?_
    conv => whnf
    refine SameQ.mk ⟨rfl, ?_⟩
    conv => whnf
    refine Cells.lit rfl rfl ?_
    conv => whnf
    refine SameQ.mk ⟨rfl, ?_⟩
    conv => whnf
    refine SameQ.mk ⟨rfl, ?_⟩
    conv => whnf
    refine CallQ.io Ae (rP true (Am false)) (by first | rfl | (simp only [Aa, Aq, V.fz, fzL, Ab, Ac, slr]; done) | simp [Aa, Aq, V.fz, fzL, V.up, upL, Ab, Ac, Ad, slr]) rfl (fun _ => rfl) (fun _ => ⟨rfl, rfl⟩) rfl (show Option.bind (A6 (u20) ([(-1 : Int), r2, (0 : Int)])) some = some (r21, u22) by rw [e25]; rfl) (fun r h => Bh h) (fun b29 c30 hb => ?_)
    obtain ⟨rfl, rfl⟩ : r21 = b29 ∧ u22 = c30 := by cases hb; exact ⟨rfl, rfl⟩
    conv => whnf
    refine SameQ.mk ⟨rfl, ?_⟩
    conv => whnf
    refine Cells.lit rfl rfl ?_
    conv => whnf
    refine SameQ.mk ⟨rfl, ?_⟩
    conv => whnf
    refine Kid.lit rfl rfl ?_
    conv => whnf
    refine Len.map ?_
    conv => whnf
    refine Ask.mk p26 ?_
    conv => whnf
    refine Kid.lit rfl rfl ?_
    conv => whnf
    refine SetKids.one (fun _ => ⟨rfl, rfl⟩) (r21) (by first | rfl | simp only [Aa, V.fz, fzL, V.up, upL, Ab, Ac, Ad, slr, List.cons_append, List.nil_append] | simp [Aa, V.fz, fzL, V.up, upL, Ab, Ac, Ad, slr]) (by first | omega | (simp [Bc] at * <;> omega)) ?_
    conv => whnf
    refine Kid.lit rfl rfl ?_
    conv => whnf
    refine SetKids.lit rfl ?_
    conv => whnf
    refine Cells.lit rfl rfl ?_
    conv => whnf
    refine SetKids.lit rfl ?_
    conv => whnf
    cases h; exact ⟨(by first | rfl | simp only [Ah, Aa, V.fz, fzL, V.up, upL, Ab, Ac, Ad, slr] | simp [Ah, Aa, V.fz, fzL, V.up, upL, Ab, Ac, Ad, slr]), (by first | rfl | simp only [Ah, Aa, V.fz, fzL, V.up, upL, Ab, Ac, Ad, slr] | simp [Ah, Aa, V.fz, fzL, V.up, upL, Ab, Ac, Ad, slr])⟩
   conv => whnf
   refine SameQ.mk ⟨rfl, ?_⟩
   conv => whnf
   refine Cells.lit rfl rfl ?_
   conv => whnf
   refine SameQ.mk ⟨rfl, ?_⟩
   conv => whnf
   refine SameQ.mk ⟨rfl, ?_⟩
   conv => whnf
   refine SameQ.mk ⟨rfl, ?_⟩
   conv => whnf
   refine SameQ.mk ⟨rfl, ?_⟩
   conv => whnf
   refine BslQ.o Ae ([(-1 : Int), r2, (0 : Int)]) (by exact fun _ => ⟨rfl, rfl⟩) (by first | rfl | simp only [Aa, V.fz, fzL, V.up, upL, Ab, Ac, Ad, slr, List.cons_append, List.nil_append] | simp [Aa, V.fz, fzL, V.up, upL, Ab, Ac, Ad, slr]) ?_
   conv => whnf
   refine SameQ.mk ⟨rfl, ?_⟩
   conv => whnf
   refine Cells.lit rfl rfl ?_
   conv => whnf
   refine SameQ.mk ⟨rfl, ?_⟩
   conv => whnf
   refine SameQ.mk ⟨rfl, ?_⟩
   conv => whnf
   refine SameQ.mk ⟨rfl, ?_⟩
   conv => whnf
   refine CallQ.io Ae (rP true (Am false)) (by first | rfl | simp only [Aa, V.fz, fzL, V.up, upL, Ab, Ac, Ad, slr, List.cons_append, List.nil_append] | simp [Aa, V.fz, fzL, V.up, upL, Ab, Ac, Ad, slr]) rfl (fun _ => rfl) (fun _ => ⟨rfl, rfl⟩) rfl (show Option.bind (Av (u12) ((↑q10_5.Table.length : Int))) some = some (r19, u20) by rw [e24]; rfl) (fun r h => A7 h) (fun b31 c32 hb => ?_)
   obtain ⟨rfl, rfl⟩ : r19 = b31 ∧ u20 = c32 := by cases hb; exact ⟨rfl, rfl⟩
   conv => whnf
   refine SameQ.mk ⟨rfl, ?_⟩
   conv => whnf
   refine Cells.lit rfl rfl ?_
   conv => whnf
   refine SameQ.mk ⟨rfl, ?_⟩
   conv => whnf
   refine SameQ.mk ⟨rfl, ?_⟩
   conv => whnf
   refine CallQ.io Ae (rP true (Am false)) (by first | rfl | (simp only [Aa, Aq, V.fz, fzL, Ab, Ac, slr]; done) | simp [Aa, Aq, V.fz, fzL, V.up, upL, Ab, Ac, Ad, slr]) rfl (fun _ => rfl) (fun _ => ⟨rfl, rfl⟩) rfl (show Option.bind (A6 (u20) ([(-1 : Int), r2, (0 : Int)])) some = some (r21, u22) by rw [e25]; rfl) (fun r h => Bh h) (fun b33 c34 hb => ?_)
   obtain ⟨rfl, rfl⟩ : r21 = b33 ∧ u22 = c34 := by cases hb; exact ⟨rfl, rfl⟩
   conv => whnf
   refine SameQ.mk ⟨rfl, ?_⟩
   conv => whnf
   refine Cells.lit rfl rfl ?_
   conv => whnf
   refine SameQ.mk ⟨rfl, ?_⟩
   conv => whnf
   refine Kid.lit rfl rfl ?_
   conv => whnf
   refine Len.map ?_
   conv => whnf
   refine Ask.mk p26 ?_
   conv => whnf
   refine Kid.lit rfl rfl ?_
   conv => whnf
   refine SetKids.one (fun _ => ⟨rfl, rfl⟩) (r21) (by first | rfl | simp only [Aa, V.fz, fzL, V.up, upL, Ab, Ac, Ad, slr, List.cons_append, List.nil_append] | simp [Aa, V.fz, fzL, V.up, upL, Ab, Ac, Ad, slr]) (by first | omega | (simp [Bc] at * <;> omega)) ?_
   conv => whnf
   refine Kid.lit rfl rfl ?_
   conv => whnf
   refine SetKids.lit rfl ?_
   conv => whnf
   refine Cells.lit rfl rfl ?_
   conv => whnf
   refine SetKids.lit rfl ?_
   conv => whnf
   cases h; exact ⟨(by first | rfl | simp only [Ah, Aa, V.fz, fzL, V.up, upL, Ab, Ac, Ad, slr] | simp [Ah, Aa, V.fz, fzL, V.up, upL, Ab, Ac, Ad, slr]), (by first | rfl | simp only [Ah, Aa, V.fz, fzL, V.up, upL, Ab, Ac, Ad, slr] | simp [Ah, Aa, V.fz, fzL, V.up, upL, Ab, Ac, Ad, slr])⟩
  conv => whnf
  refine SameQ.mk ⟨rfl, ?_⟩
  conv => whnf
  refine Cells.lit rfl rfl ?_
  conv => whnf
  refine SameQ.mk ⟨rfl, ?_⟩
  conv => whnf
  refine SameQ.mk ⟨rfl, ?_⟩
  conv => whnf
  refine SameQ.mk ⟨rfl, ?_⟩
  conv => whnf
  refine Cells.lit rfl rfl ?_
  conv => whnf
  refine SameQ.mk ⟨rfl, ?_⟩
  conv => whnf
  refine SameQ.mk ⟨rfl, ?_⟩
  conv => whnf
  refine SameQ.mk ⟨rfl, ?_⟩
  conv => whnf
  refine BslQ.o Ae ([(-1 : Int), r2, (0 : Int)]) (by exact fun _ => ⟨rfl, rfl⟩) (by first | rfl | simp only [Aa, V.fz, fzL, V.up, upL, Ab, Ac, Ad, slr, List.cons_append, List.nil_append] | simp [Aa, V.fz, fzL, V.up, upL, Ab, Ac, Ad, slr]) ?_
  conv => whnf
  refine SameQ.mk ⟨rfl, ?_⟩
  conv => whnf
  refine Cells.lit rfl rfl ?_
  conv => whnf
  refine SameQ.mk ⟨rfl, ?_⟩
  conv => whnf
  refine SameQ.mk ⟨rfl, ?_⟩
  conv => whnf
  refine SameQ.mk ⟨rfl, ?_⟩
  conv => whnf
  refine Cells.lit rfl rfl ?_
  conv => whnf
  refine SameQ.mk ⟨rfl, ?_⟩
  conv => whnf
  refine SameQ.mk ⟨rfl, ?_⟩
  conv => whnf
  refine Kid.lit rfl rfl ?_
  conv => whnf
  refine Len.map ?_
  conv => whnf
  refine SameQ.mk ⟨rfl, ?_⟩
  conv => whnf
  refine Cells.lit rfl rfl ?_
  conv => whnf
  refine SameQ.mk ⟨rfl, ?_⟩
  conv => whnf
  refine SameQ.mk ⟨rfl, ?_⟩
  conv => whnf
  refine SameQ.mk ⟨rfl, ?_⟩
  conv => whnf
  refine CallQ.io Ae (rP true (Am false)) (by first | rfl | simp only [Aa, V.fz, fzL, V.up, upL, Ab, Ac, Ad, slr, List.cons_append, List.nil_append] | simp [Aa, V.fz, fzL, V.up, upL, Ab, Ac, Ad, slr]) rfl (fun _ => rfl) (fun _ => ⟨rfl, rfl⟩) rfl (show Option.bind (Av (u12) ((↑q10_5.Table.length : Int))) some = some (r19, u20) by rw [e24]; rfl) (fun r h => A7 h) (fun b35 c36 hb => ?_)
  obtain ⟨rfl, rfl⟩ : r19 = b35 ∧ u20 = c36 := by cases hb; exact ⟨rfl, rfl⟩
  conv => whnf
  refine SameQ.mk ⟨rfl, ?_⟩
  conv => whnf
  refine Cells.lit rfl rfl ?_
  conv => whnf
  refine SameQ.mk ⟨rfl, ?_⟩
  conv => whnf
  refine SameQ.mk ⟨rfl, ?_⟩
  conv => whnf
  refine CallQ.io Ae (rP true (Am false)) (by first | rfl | (simp only [Aa, Aq, V.fz, fzL, Ab, Ac, slr]; done) | simp [Aa, Aq, V.fz, fzL, V.up, upL, Ab, Ac, Ad, slr]) rfl (fun _ => rfl) (fun _ => ⟨rfl, rfl⟩) rfl (show Option.bind (A6 (u20) ([(-1 : Int), r2, (0 : Int)])) some = some (r21, u22) by rw [e25]; rfl) (fun r h => Bh h) (fun b37 c38 hb => ?_)
  obtain ⟨rfl, rfl⟩ : r21 = b37 ∧ u22 = c38 := by cases hb; exact ⟨rfl, rfl⟩
  conv => whnf
  refine SameQ.mk ⟨rfl, ?_⟩
  conv => whnf
  refine Cells.lit rfl rfl ?_
  conv => whnf
  refine SameQ.mk ⟨rfl, ?_⟩
  conv => whnf
  refine Kid.lit rfl rfl ?_
  conv => whnf
  refine Len.map ?_
  conv => whnf
  refine Ask.mk p26 ?_
  conv => whnf
  refine Kid.lit rfl rfl ?_
  conv => whnf
  refine SetKids.one (fun _ => ⟨rfl, rfl⟩) (r21) (by first | rfl | simp only [Aa, V.fz, fzL, V.up, upL, Ab, Ac, Ad, slr, List.cons_append, List.nil_append] | simp [Aa, V.fz, fzL, V.up, upL, Ab, Ac, Ad, slr]) (by first | omega | (simp [Bc] at * <;> omega)) ?_
  conv => whnf
  refine Kid.lit rfl rfl ?_
  conv => whnf
  refine SetKids.lit rfl ?_
  conv => whnf
  refine Cells.lit rfl rfl ?_
  conv => whnf
  refine SetKids.lit rfl ?_
  conv => whnf
  cases h; exact ⟨(by first | rfl | simp only [Ah, Aa, V.fz, fzL, V.up, upL, Ab, Ac, Ad, slr] | simp [Ah, Aa, V.fz, fzL, V.up, upL, Ab, Ac, Ad, slr]), (by first | rfl | simp only [Ah, Aa, V.fz, fzL, V.up, upL, Ab, Ac, Ad, slr] | simp [Ah, Aa, V.fz, fzL, V.up, upL, Ab, Ac, Ad, slr])⟩
 conv => whnf
 refine Br.oe h (fun p39 h => ?_) (fun p39 h => ?_)
 ·conv => whnf
  refine Cells.lit rfl rfl ?_
  conv => whnf
  refine BslQ.o Ae ([(0 : Int)]) (by exact fun _ => ⟨rfl, rfl⟩) (by first | rfl | simp only [Aa, V.fz, fzL, V.up, upL, Ab, Ac, Ad, slr, List.cons_append, List.nil_append] | simp [Aa, V.fz, fzL, V.up, upL, Ab, Ac, Ad, slr]) ?_
  conv => whnf
  refine NoOwn.o (fun _ => rfl) ?_
  conv => whnf
  refine Kid.lit rfl rfl ?_
  conv => whnf
  refine Kid.lit rfl rfl ?_
  conv => whnf
  refine SetKids.lit rfl ?_
  conv => whnf
  refine AppQ.o (m := 1) Ae (by exact fun _ => ⟨rfl, rfl⟩) (q10_5.Table) ([(0 : Int)]) (by first | rfl | simp only [Aa, V.fz, fzL, V.up, upL, Ab, Ac, Ad, slr, List.cons_append, List.nil_append] | simp [Aa, V.fz, fzL, V.up, upL, Ab, Ac, Ad, slr]) (by first | rfl | simp only [Aa, V.fz, fzL, V.up, upL, Ab, Ac, Ad, slr, List.cons_append, List.nil_append] | simp [Aa, V.fz, fzL, V.up, upL, Ab, Ac, Ad, slr]) h fun h => ?_
  conv => whnf
  refine SetKids.lit rfl ?_
  conv => whnf
  refine Cells.lit rfl rfl ?_
  conv => whnf
  refine SetKids.lit rfl ?_
  conv => whnf
  cases h; exact ⟨(by first | rfl | simp only [Ah, Aa, V.fz, fzL, V.up, upL, Ab, Ac, Ad, slr] | simp [Ah, Aa, V.fz, fzL, V.up, upL, Ab, Ac, Ad, slr]), (by first | rfl | simp only [Ah, Aa, V.fz, fzL, V.up, upL, Ab, Ac, Ad, slr] | simp [Ah, Aa, V.fz, fzL, V.up, upL, Ab, Ac, Ad, slr])⟩
 conv => whnf
 refine Cells.lit rfl rfl ?_
 conv => whnf
 refine SetKids.lit rfl ?_
 conv => whnf
 cases h; exact ⟨(by first | rfl | simp only [Ah, Aa, V.fz, fzL, V.up, upL, Ab, Ac, Ad, slr] | simp [Ah, Aa, V.fz, fzL, V.up, upL, Ab, Ac, Ad, slr]), (by first | rfl | simp only [Ah, Aa, V.fz, fzL, V.up, upL, Ab, Ac, Ad, slr] | simp [Ah, Aa, V.fz, fzL, V.up, upL, Ab, Ac, Ad, slr])⟩
noncomputable def D7 (c0 : Sl1Cur) : Option (Int × Sl1Cur) :=
 (Av (c0) ((24 : Int))).bind fun (r1, u2) =>
 ask ((11 : Int) ≠ (0 : Int) ∧ InI (r1.tdiv (11 : Int))) <|
 ask (InI ((6 : Int) + r1.tdiv (11 : Int))) <|
 ask (0 ≤ (0 : Int) ∧ (0 : Int) ≤ (6 : Int) + r1.tdiv (11 : Int) ∧ (6 : Int) + r1.tdiv (11 : Int) ≤ (([(1 : Int), (1 : Int), (2 : Int), (2 : Int), (2 : Int), (3 : Int), (0 : Int), (4 : Int)].length : Nat) : Int)) <|
 (A6 (u2) (List.take (((6 : Int) + r1.tdiv (11 : Int)).toNat - Int.toNat (0 : Int)) (List.drop (Int.toNat (0 : Int)) [(1 : Int), (1 : Int), (2 : Int), (2 : Int), (2 : Int), (3 : Int), (0 : Int), (4 : Int)]))).bind fun (r5, u6) =>
 some (r5, u6)
theorem U7 {c0 : Sl1Cur} {v : (Int × Sl1Cur)} (h : D7 c0 = some v) : P7 Try.prog Hs [(rP true (Am false)) c0] (Ae v.1) 0 ((rP true (Am false)) v.2) := by
 refine M8 T4 (Nat.le_of_ble_eq_true rfl) ?_
 unfold D7 at h
 conv => whnf
 refine BslQ.o Ae ([(1 : Int), (1 : Int), (2 : Int), (2 : Int), (2 : Int), (3 : Int), (0 : Int), (4 : Int)]) (by exact fun _ => ⟨rfl, rfl⟩) (by first | rfl | simp only [Aa, V.fz, fzL, V.up, upL, Ab, Ac, Ad, slr, List.cons_append, List.nil_append] | simp [Aa, V.fz, fzL, V.up, upL, Ab, Ac, Ad, slr]) ?_
 conv => whnf
 refine CallQ.io Ae (rP true (Am false)) (by first | rfl | simp only [Aa, V.fz, fzL, V.up, upL, Ab, Ac, Ad, slr, List.cons_append, List.nil_append] | simp [Aa, V.fz, fzL, V.up, upL, Ab, Ac, Ad, slr]) rfl (fun _ => rfl) (fun _ => ⟨rfl, rfl⟩) rfl h (fun r h => A7 h) (fun r1 u2 h => ?_)
 conv => whnf
 refine Ask.o h fun p3 h => ?_
 conv => whnf
 refine Ask.o h fun p4 h => ?_
 conv => whnf
 refine SlcQ.lst (xs := [(1 : Int), (1 : Int), (2 : Int), (2 : Int), (2 : Int), (3 : Int), (0 : Int), (4 : Int)]) Ae (by first | rfl | simp only [Aa, V.fz, fzL, V.up, upL, Ab, Ac, Ad, slr, List.cons_append, List.nil_append] | simp [Aa, V.fz, fzL, V.up, upL, Ab, Ac, Ad, slr]) h fun h => ?_
 conv => whnf
 refine CallQ.io Ae (rP true (Am false)) (by first | rfl | simp only [Aa, V.fz, fzL, V.up, upL, Ab, Ac, Ad, slr, List.cons_append, List.nil_append] | simp [Aa, V.fz, fzL, V.up, upL, Ab, Ac, Ad, slr]) rfl (fun _ => rfl) (fun _ => ⟨rfl, rfl⟩) rfl h (fun r h => Bh h) (fun r5 u6 h => ?_)
 conv => whnf
 cases h; exact ⟨(by first | rfl | simp only [Ah, Aa, V.fz, fzL, V.up, upL, Ab, Ac, Ad, slr] | simp [Ah, Aa, V.fz, fzL, V.up, upL, Ab, Ac, Ad, slr]), (by first | rfl | simp only [Ah, Aa, V.fz, fzL, V.up, upL, Ab, Ac, Ad, slr] | simp [Ah, Aa, V.fz, fzL, V.up, upL, Ab, Ac, Ad, slr])⟩
end Go.Proofs.Ytoaojijoefljaaa.Ax
