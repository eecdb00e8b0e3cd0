/-
 What the functions compute, as functions on plain data, and that the program does compute it; written by program.
-/
import Derived.Test.YtcpgnfohmeineaaCode
import Derived.Test.YtcpgnfohmeineaaG1
import Derived.Test.YtcpgnfohmeineaaG2
import Derived.Test.YtcpgnfohmeineaaG3
import Derived.Test.YtcpgnfohmeineaaG5
import Derived.Test.YtcpgnfohmeineaaG6
import Derived.Test.YtcpgnfohmeineaaG7
namespace Go.Proofs.Ytcpgnfohmeineaa.Ax
open Go
set_option maxRecDepth 100000
set_option maxHeartbeats 4000000
noncomputable def B2 (r2 : Int) : (Int × SOp × Sl1Cur) → Option ((Int × SOp × Sl1Cur) ⊕ (SOp × Sl1Cur)) := fun (x6, x5, x68) =>
 if x6 > (0 : Int) then
 (Ao (x68) (r2)).bind fun (r7, u8) =>
 ask ((x5.Table).length + ([r7]).length ≤ LIM) <|
 ask (InI (x6 - (1 : Int))) <|
 some (.inl (x6 - (1 : Int), { Arity := x5.Arity, Table := x5.Table ++ [r7] }, u8))
 else
 some (.inr (x5, x68))
def Ec (r2 : Int) : (Int × SOp × Sl1Cur) → St := fun s => [(6, A.val (Af s.1)), (5, A.val ((rP true (Aj true)) s.2.1)), (1, A.val (Af (r2))), (4, A.val ((rP true (Aj true)) ({ Arity := (0 : Int), Table := Bl Int }))), (0, A.ref 68 []), (68, A.val ((rP true (Ak false)) s.2.2))]
def Gg (r2 : Int) : (SOp × Sl1Cur) → Tgt
 | s => ((Ex.exit 0), [5, 1, 4, 0, 68], [(5, A.val ((rP true (Aj true)) s.1)), (1, A.val (Af (r2))), (4, A.val ((rP true (Aj true)) ({ Arity := (0 : Int), Table := Bl Int }))), (0, A.ref 68 []), (68, A.val ((rP true (Ak false)) s.2))])
theorem Mx {r2 : Int} (s : (Int × SOp × Sl1Cur)) (o : (Int × SOp × Sl1Cur) ⊕ (SOp × Sl1Cur)) (h : B2 r2 s = some o) : vc Try.prog F6 (Dx [6, 5, 1, 4, 0, 68] (Ec r2) (Gg r2) o) (Ec r2 s) := by
 obtain ⟨x6, x5, x68⟩ := s
 unfold B2 at h
 try dsimp only at h
 conv => whnf
 refine Br.od h (fun p6 h => ?_) (fun p6 h => ?_)
 ·conv => whnf
  refine Cells.lit rfl rfl ?_
  conv => whnf
  refine LendP.io Af (rP true (Ak false)) (by first | rfl | simp only [Aa, V.fz, fzL, V.up, upL, Ab, Ac, Ad, slr, List.cons_append, List.nil_append] | simp [Aa, V.fz, fzL, V.up, upL, Ab, Ac, Ad, slr]) (fun _ => rfl) (fun _ => ⟨rfl, rfl⟩) (fun _ => rfl) h (fun r h => Av h) (fun r7 u8 h => ?_)
  conv => whnf
  refine BslQ.o Af [r7] (by exact fun _ => ⟨rfl, rfl⟩) (by first | rfl | simp only [Aa, V.fz, fzL, V.up, upL, Ab, Ac, Ad, slr, List.cons_append, List.nil_append] | simp [Aa, V.fz, fzL, V.up, upL, Ab, Ac, Ad, slr]) ?_
  conv => whnf
  refine NoOwn.o (fun _ => rfl) ?_
  conv => whnf
  refine Kid.lit rfl rfl ?_
  conv => whnf
  refine Kid.lit rfl rfl ?_
  conv => whnf
  refine SetKids.lit rfl ?_
  conv => whnf
  refine AppQ.o (m := 1) Af (by exact fun _ => ⟨rfl, rfl⟩) (x5.Table) ([r7]) (by first | rfl | simp only [Aa, V.fz, fzL, V.up, upL, Ab, Ac, Ad, slr, List.cons_append, List.nil_append] | simp [Aa, V.fz, fzL, V.up, upL, Ab, Ac, Ad, slr]) (by first | rfl | simp only [Aa, V.fz, fzL, V.up, upL, Ab, Ac, Ad, slr, List.cons_append, List.nil_append] | simp [Aa, V.fz, fzL, V.up, upL, Ab, Ac, Ad, slr]) h fun h => ?_
  conv => whnf
  refine SetKids.lit rfl ?_
  conv => whnf
  refine Ask.o h fun p9 h => ?_
  conv => whnf
  cases h; exact ⟨rfl, rfl⟩
 conv => whnf
 cases h; exact ⟨rfl, rfl⟩
noncomputable def Bf (c0 : Sl1Cur) (n0 : Int) : Option (SOp × Sl1Cur) :=
 (Hf (n0) ((1 : Int))).bind fun r1 =>
 (Gh (r1) ((4 : Int))).bind fun r2 =>
 (Au (c0) ([(1 : Int), (1 : Int), (2 : Int), (2 : Int), (2 : Int), (3 : Int), (0 : Int)])).bind fun (r3, u4) =>
 (B9 (r2) (r3)).bind fun r5 =>
 (Ap (B2 r2) (r5, { Arity := r3, Table := Bl Int }, u4)).bind fun (q10_5, q10_68) =>
 (Ao (q10_68) ((12 : Int))).bind fun (r11, u12) =>
 if r11 = (0 : Int) then
 if q10_5.Arity > (0 : Int) then
 (Ao (u12) (q10_5.Arity)).bind fun (r15, u16) =>
 (Dj (r2) (q10_5.Arity) (r15)).bind fun r17 =>
 some ({ Arity := q10_5.Arity, Table := r17 }, u16)
 else
 some (q10_5, u12)
 else
 if r11 = (1 : Int) then
 (Ao (u12) ((↑q10_5.Table.length : Int))).bind fun (r19, u20) =>
 (Au (u20) ([(-1 : Int), r2, (0 : Int)])).bind fun (r21, u22) =>
 ask ((0 : Int) ≤ r19 ∧ r19 < (↑q10_5.Table.length : Int)) <|
 some ({ Arity := q10_5.Arity, Table := q10_5.Table.set r19.toNat r21 }, u22)
 else
 if r11 = (2 : Int) then
 ask ((q10_5.Table).length + ([(0 : Int)]).length ≤ LIM) <|
 some ({ Arity := q10_5.Arity, Table := q10_5.Table ++ [(0 : Int)] }, u12)
 else
 some (q10_5, u12)
theorem H3 {c0 : Sl1Cur} {n0 : Int} {v : (SOp × Sl1Cur)} (h : Bf c0 n0 = some v) : Aap Try.prog Dl [(rP true (Ak false)) c0, Af n0] ((Aj true) v.1) 0 ((rP true (Ak false)) v.2) := by
 refine Sp Oy (Nat.le_of_ble_eq_true rfl) ?_
 unfold Bf at h
 conv => whnf
 refine CallQ.o Af (by first | rfl | simp only [Aa, V.fz, fzL, V.up, upL, Ab, Ac, Ad, slr, List.cons_append, List.nil_append] | simp [Aa, V.fz, fzL, V.up, upL, Ab, Ac, Ad, slr]) h (fun r h => Ab7 h) (fun r1 h => ?_)
 conv => whnf
 refine CallQ.o Af (by first | rfl | simp only [Aa, V.fz, fzL, V.up, upL, Ab, Ac, Ad, slr, List.cons_append, List.nil_append] | simp [Aa, V.fz, fzL, V.up, upL, Ab, Ac, Ad, slr]) h (fun r h => Abj h) (fun r2 h => ?_)
 conv => whnf
 refine BslQ.o Af ([(1 : Int), (1 : Int), (2 : Int), (2 : Int), (2 : Int), (3 : Int), (0 : Int)]) (by exact fun _ => ⟨rfl, rfl⟩) (by first | rfl | simp only [Aa, V.fz, fzL, V.up, upL, Ab, Ac, Ad, slr, List.cons_append, List.nil_append] | simp [Aa, V.fz, fzL, V.up, upL, Ab, Ac, Ad, slr]) ?_
 conv => whnf
 refine CallQ.io Af (rP true (Ak false)) (by first | rfl | simp only [Aa, V.fz, fzL, V.up, upL, Ab, Ac, Ad, slr, List.cons_append, List.nil_append] | simp [Aa, V.fz, fzL, V.up, upL, Ab, Ac, Ad, slr]) rfl (fun _ => rfl) (fun _ => ⟨rfl, rfl⟩) rfl h (fun r h => A9 h) (fun r3 u4 h => ?_)
 conv => whnf
 refine SetKids.lit rfl ?_
 conv => whnf
 refine Cells.lit rfl rfl ?_
 conv => whnf
 refine CallQ.o Af (by first | rfl | simp only [Aa, V.fz, fzL, V.up, upL, Ab, Ac, Ad, slr, List.cons_append, List.nil_append] | simp [Aa, V.fz, fzL, V.up, upL, Ab, Ac, Ad, slr]) h (fun r h => It h) (fun r5 h => ?_)
 conv => whnf
 refine LoopQ.o [6, 5, 1, 4, 0, 68] (Ec r2) (Gg r2) h (fun s o h => Mx s o h) (by first | rfl | simp [restrict, look, Aa, V.fz, fzL, V.up, upL, Ab, Ac, Ad, slr]) (fun _ => rfl) ?_
 rintro ⟨q10_5, q10_68⟩ h
 try dsimp only at h
 conv => whnf
 refine CallQ.io Af (rP true (Ak false)) (by first | rfl | simp only [Aa, V.fz, fzL, V.up, upL, Ab, Ac, Ad, slr, List.cons_append, List.nil_append] | simp [Aa, V.fz, fzL, V.up, upL, Ab, Ac, Ad, slr]) rfl (fun _ => rfl) (fun _ => ⟨rfl, rfl⟩) rfl h (fun r h => Av h) (fun r11 u12 h => ?_)
 conv => whnf
 refine Br.oe h (fun p13 h => ?_) (fun p13 h => ?_)
 ·conv => whnf
  refine Cells.lit rfl rfl ?_
  conv => whnf
  refine Br.od h (fun p14 h => ?_) (fun p14 h => ?_)
  ·conv => whnf
   refine Cells.lit rfl rfl ?_
   conv => whnf
   refine Cells.lit rfl rfl ?_
   conv => whnf
   refine LendP.io Af (rP true (Ak false)) (by first | rfl | simp only [Aa, V.fz, fzL, V.up, upL, Ab, Ac, Ad, slr, List.cons_append, List.nil_append] | simp [Aa, V.fz, fzL, V.up, upL, Ab, Ac, Ad, slr]) (fun _ => rfl) (fun _ => ⟨rfl, rfl⟩) (fun _ => rfl) h (fun r h => Av h) (fun r15 u16 h => ?_)
   conv => whnf
   refine CallQ.o (slr true 1 Af) (by first | rfl | simp only [Aa, V.fz, fzL, V.up, upL, Ab, Ac, Ad, slr, List.cons_append, List.nil_append] | simp [Aa, V.fz, fzL, V.up, upL, Ab, Ac, Ad, slr]) h (fun r h => Ra h) (fun r17 h => ?_)
   conv => whnf
   refine SetKids.lit rfl ?_
   conv => whnf
   refine Cells.lit rfl rfl ?_
   conv => whnf
   refine SetKids.lit rfl ?_
   conv => whnf
   cases h; exact ⟨(by first | rfl | simp only [Ah, Aa, V.fz, fzL, V.up, upL, Ab, Ac, Ad, slr] | simp [Ah, Aa, V.fz, fzL, V.up, upL, Ab, Ac, Ad, slr]), (by first | rfl | simp only [Ah, Aa, V.fz, fzL, V.up, upL, Ab, Ac, Ad, slr] | simp [Ah, Aa, V.fz, fzL, V.up, upL, Ab, Ac, Ad, slr])⟩
  conv => whnf
  refine Cells.lit rfl rfl ?_
  conv => whnf
  refine SetKids.lit rfl ?_
  conv => whnf
  cases h; exact ⟨(by first | rfl | simp only [Ah, Aa, V.fz, fzL, V.up, upL, Ab, Ac, Ad, slr] | simp [Ah, Aa, V.fz, fzL, V.up, upL, Ab, Ac, Ad, slr]), (by first | rfl | simp only [Ah, Aa, V.fz, fzL, V.up, upL, Ab, Ac, Ad, slr] | simp [Ah, Aa, V.fz, fzL, V.up, upL, Ab, Ac, Ad, slr])⟩
 conv => whnf
 refine Br.oe h (fun p18 h => ?_) (fun p18 h => ?_)
 ·conv => whnf
  refine Cells.lit rfl rfl ?_
  conv => whnf
  refine Cells.lit rfl rfl ?_
  conv => whnf
  obtain ⟨⟨r19, u20⟩, e24, h⟩ := Option.bind_eq_some_iff.1 h
  try dsimp only at h
  obtain ⟨⟨r21, u22⟩, e25, h⟩ := Option.bind_eq_some_iff.1 h
  try dsimp only at h
  obtain ⟨p26, h⟩ := Vx.1 h
  refine Two.mk ⟨?_, ?_⟩
  ·conv => whnf
   refine SameQ.mk ⟨rfl, ?_⟩
   conv => whnf
   refine Cells.lit rfl rfl ?_
   conv => whnf
   refine SameQ.mk ⟨rfl, ?_⟩
   conv => whnf
   refine SameQ.mk ⟨rfl, ?_⟩
   conv => whnf
   refine SameQ.mk ⟨rfl, ?_⟩
   conv => whnf
   refine Cells.lit rfl rfl ?_
   conv => whnf
   refine SameQ.mk ⟨rfl, ?_⟩
   conv => whnf
   refine SameQ.mk ⟨rfl, ?_⟩
   conv => whnf
   refine SameQ.mk ⟨rfl, ?_⟩
   conv => whnf
   refine Kid.lit rfl rfl ?_
   conv => whnf
   refine Len.map ?_
   conv => whnf
   refine Two.mk ⟨?_, ?_⟩
   ·conv => whnf
    refine SameQ.mk ⟨rfl, ?_⟩
    conv => whnf
    refine Cells.lit rfl rfl ?_
    conv => whnf
    refine SameQ.mk ⟨rfl, ?_⟩
    conv => whnf
    refine SameQ.mk ⟨rfl, ?_⟩
    conv => whnf
    refine SameQ.mk ⟨rfl, ?_⟩
    conv => whnf
    refine SameQ.mk ⟨rfl, ?_⟩
    conv => whnf
    refine CallQ.io Af (rP true (Ak false)) (by first | rfl | simp only [Aa, V.fz, fzL, V.up, upL, Ab, Ac, Ad, slr, List.cons_append, List.nil_append] | simp [Aa, V.fz, fzL, V.up, upL, Ab, Ac, Ad, slr]) rfl (fun _ => rfl) (fun _ => ⟨rfl, rfl⟩) rfl (show Option.bind (Ao (u12) ((↑q10_5.Table.length : Int))) some = some (r19, u20) by rw [e24]; rfl) (fun r h => Av h) (fun b27 c28 hb => ?_)
    obtain ⟨rfl, rfl⟩ : r19 = b27 ∧ u20 = c28 := by cases hb; exact ⟨rfl, rfl⟩
    conv => whnf
    refine SameQ.mk ⟨rfl, ?_⟩
    conv => whnf
    refine Cells.lit rfl rfl ?_
    conv => whnf
    refine SameQ.mk ⟨rfl, ?_⟩
    conv => whnf
    refine SameQ.mk ⟨rfl, ?_⟩
    conv => whnf
    refine SameQ.mk ⟨rfl, ?_⟩
    conv => whnf
    refine BslQ.o Af ([(-1 : Int), r2, (0 : Int)]) (by exact fun _ => ⟨rfl, rfl⟩) (by first | rfl | simp only [Aa, V.fz, fzL, V.up, upL, Ab, Ac, Ad, slr, List.cons_append, List.nil_append] | simp [Aa, V.fz, fzL, V.up, upL, Ab, Ac, Ad, slr]) ?_
    conv => whnf
    refine SameQ.mk ⟨rfl, ?_⟩
    conv => whnf
    refine Cells.lit rfl rfl ?_
    conv => whnf
    refine SameQ.mk ⟨rfl, ?_⟩
    conv => whnf
    refine SameQ.mk ⟨rfl, ?_⟩
    conv => whnf
    refine CallQ.io Af (rP true (Ak false)) (by first | rfl | simp only [Aa, V.fz, fzL, V.up, upL, Ab, Ac, Ad, slr, List.cons_append, List.nil_append] | simp [Aa, V.fz, fzL, V.up, upL, Ab, Ac, Ad, slr]) rfl (fun _ => rfl) (fun _ => ⟨rfl, rfl⟩) rfl (show Option.bind (Au (u20) ([(-1 : Int), r2, (0 : Int)])) some = some (r21, u22) by rw [e25]; rfl) (fun r h => A9 h) (fun b29 c30 hb => ?_)
    obtain ⟨rfl, rfl⟩ : r21 = b29 ∧ u22 = c30 := by cases hb; exact ⟨rfl, rfl⟩
    conv => whnf
    refine SameQ.mk ⟨rfl, ?_⟩
    conv => whnf
    refine Cells.lit rfl rfl ?_
    conv => whnf
    refine SameQ.mk ⟨rfl, ?_⟩
    conv => whnf
    refine Kid.lit rfl rfl ?_
    conv => whnf
    refine Len.map ?_
    conv => whnf
    refine Ask.mk p26 ?_
    conv => whnf
    refine Kid.lit rfl rfl ?_
    conv => whnf
    refine SetKids.one (fun _ => ⟨rfl, rfl⟩) (r21) (by first | rfl | simp only [Aa, V.fz, fzL, V.up, upL, Ab, Ac, Ad, slr, List.cons_append, List.nil_append] | simp [Aa, V.fz, fzL, V.up, upL, Ab, Ac, Ad, slr]) (by first | omega | (simp [A4] at *; omega)) ?_
    conv => whnf
    refine Kid.lit rfl rfl ?_
    conv => whnf
    refine SetKids.lit rfl ?_
    conv => whnf
    refine Cells.lit rfl rfl ?_
    conv => whnf
    refine SetKids.lit rfl ?_
    conv => whnf
    cases h; exact ⟨(by first | rfl | simp only [Ah, Aa, V.fz, fzL, V.up, upL, Ab, Ac, Ad, slr] | simp [Ah, Aa, V.fz, fzL, V.up, upL, Ab, Ac, Ad, slr]), (by first | rfl | simp only [Ah, Aa, V.fz, fzL, V.up, upL, Ab, Ac, Ad, slr] | simp [Ah, Aa, V.fz, fzL, V.up, upL, Ab, Ac, Ad, slr])⟩
   conv => whnf
   refine SameQ.mk ⟨rfl, ?_⟩
   conv => whnf
   refine Cells.lit rfl rfl ?_
   conv => whnf
   refine SameQ.mk ⟨rfl, ?_⟩
   conv => whnf
   refine SameQ.mk ⟨rfl, ?_⟩
   conv => whnf
   refine SameQ.mk ⟨rfl, ?_⟩
   conv => whnf
   refine SameQ.mk ⟨rfl, ?_⟩
   conv => whnf
   refine BslQ.o Af ([(-1 : Int), r2, (0 : Int)]) (by exact fun _ => ⟨rfl, rfl⟩) (by first | rfl | simp only [Aa, V.fz, fzL, V.up, upL, Ab, Ac, Ad, slr, List.cons_append, List.nil_append] | simp [Aa, V.fz, fzL, V.up, upL, Ab, Ac, Ad, slr]) ?_
   conv => whnf
   refine SameQ.mk ⟨rfl, ?_⟩
   conv => whnf
   refine Cells.lit rfl rfl ?_
   conv => whnf
   refine SameQ.mk ⟨rfl, ?_⟩
   conv => whnf
   refine SameQ.mk ⟨rfl, ?_⟩
   conv => whnf
   refine SameQ.mk ⟨rfl, ?_⟩
   conv => whnf
   refine CallQ.io Af (rP true (Ak false)) (by first | rfl | simp only [Aa, V.fz, fzL, V.up, upL, Ab, Ac, Ad, slr, List.cons_append, List.nil_append] | simp [Aa, V.fz, fzL, V.up, upL, Ab, Ac, Ad, slr]) rfl (fun _ => rfl) (fun _ => ⟨rfl, rfl⟩) rfl (show Option.bind (Ao (u12) ((↑q10_5.Table.length : Int))) some = some (r19, u20) by rw [e24]; rfl) (fun r h => Av h) (fun b31 c32 hb => ?_)
   obtain ⟨rfl, rfl⟩ : r19 = b31 ∧ u20 = c32 := by cases hb; exact ⟨rfl, rfl⟩
   conv => whnf
   refine SameQ.mk ⟨rfl, ?_⟩
   conv => whnf
   refine Cells.lit rfl rfl ?_
   conv => whnf
   refine SameQ.mk ⟨rfl, ?_⟩
   conv => whnf
   refine SameQ.mk ⟨rfl, ?_⟩
   conv => whnf
   refine CallQ.io Af (rP true (Ak false)) (by first | rfl | simp only [Aa, V.fz, fzL, V.up, upL, Ab, Ac, Ad, slr, List.cons_append, List.nil_append] | simp [Aa, V.fz, fzL, V.up, upL, Ab, Ac, Ad, slr]) rfl (fun _ => rfl) (fun _ => ⟨rfl, rfl⟩) rfl (show Option.bind (Au (u20) ([(-1 : Int), r2, (0 : Int)])) some = some (r21, u22) by rw [e25]; rfl) (fun r h => A9 h) (fun b33 c34 hb => ?_)
   obtain ⟨rfl, rfl⟩ : r21 = b33 ∧ u22 = c34 := by cases hb; exact ⟨rfl, rfl⟩
   conv => whnf
   refine SameQ.mk ⟨rfl, ?_⟩
   conv => whnf
   refine Cells.lit rfl rfl ?_
   conv => whnf
   refine SameQ.mk ⟨rfl, ?_⟩
   conv => whnf
   refine Kid.lit rfl rfl ?_
   conv => whnf
   refine Len.map ?_
   conv => whnf
   refine Ask.mk p26 ?_
   conv => whnf
   refine Kid.lit rfl rfl ?_
   conv => whnf
   refine SetKids.one (fun _ => ⟨rfl, rfl⟩) (r21) (by first | rfl | simp only [Aa, V.fz, fzL, V.up, upL, Ab, Ac, Ad, slr, List.cons_append, List.nil_append] | simp [Aa, V.fz, fzL, V.up, upL, Ab, Ac, Ad, slr]) (by first | omega | (simp [A4] at *; omega)) ?_
   conv => whnf
   refine Kid.lit rfl rfl ?_
   conv => whnf
   refine SetKids.lit rfl ?_
   conv => whnf
   refine Cells.lit rfl rfl ?_
   conv => whnf
   refine SetKids.lit rfl ?_
   conv => whnf
   cases h; exact ⟨(by first | rfl | simp only [Ah, Aa, V.fz, fzL, V.up, upL, Ab, Ac, Ad, slr] | simp [Ah, Aa, V.fz, fzL, V.up, upL, Ab, Ac, Ad, slr]), (by first | rfl | simp only [Ah, Aa, V.fz, fzL, V.up, upL, Ab, Ac, Ad, slr] | simp [Ah, Aa, V.fz, fzL, V.up, upL, Ab, Ac, Ad, slr])⟩
  conv => whnf
  refine SameQ.mk ⟨rfl, ?_⟩
  conv => whnf
  refine Cells.lit rfl rfl ?_
  conv => whnf
  refine SameQ.mk ⟨rfl, ?_⟩
  conv => whnf
  refine SameQ.mk ⟨rfl, ?_⟩
  conv => whnf
  refine SameQ.mk ⟨rfl, ?_⟩
  conv => whnf
  refine Cells.lit rfl rfl ?_
  conv => whnf
  refine SameQ.mk ⟨rfl, ?_⟩
  conv => whnf
  refine SameQ.mk ⟨rfl, ?_⟩
  conv => whnf
  refine SameQ.mk ⟨rfl, ?_⟩
  conv => whnf
  refine BslQ.o Af ([(-1 : Int), r2, (0 : Int)]) (by exact fun _ => ⟨rfl, rfl⟩) (by first | rfl | simp only [Aa, V.fz, fzL, V.up, upL, Ab, Ac, Ad, slr, List.cons_append, List.nil_append] | simp [Aa, V.fz, fzL, V.up, upL, Ab, Ac, Ad, slr]) ?_
  conv => whnf
  refine SameQ.mk ⟨rfl, ?_⟩
  conv => whnf
  refine Cells.lit rfl rfl ?_
  conv => whnf
  refine SameQ.mk ⟨rfl, ?_⟩
  conv => whnf
  refine SameQ.mk ⟨rfl, ?_⟩
  conv => whnf
  refine SameQ.mk ⟨rfl, ?_⟩
  conv => whnf
  refine Cells.lit rfl rfl ?_
  conv => whnf
  refine SameQ.mk ⟨rfl, ?_⟩
  conv => whnf
  refine SameQ.mk ⟨rfl, ?_⟩
  conv => whnf
  refine Kid.lit rfl rfl ?_
  conv => whnf
  refine Len.map ?_
  conv => whnf
  refine SameQ.mk ⟨rfl, ?_⟩
  conv => whnf
  refine Cells.lit rfl rfl ?_
  conv => whnf
  refine SameQ.mk ⟨rfl, ?_⟩
  conv => whnf
  refine SameQ.mk ⟨rfl, ?_⟩
  conv => whnf
  refine SameQ.mk ⟨rfl, ?_⟩
  conv => whnf
  refine CallQ.io Af (rP true (Ak false)) (by first | rfl | simp only [Aa, V.fz, fzL, V.up, upL, Ab, Ac, Ad, slr, List.cons_append, List.nil_append] | simp [Aa, V.fz, fzL, V.up, upL, Ab, Ac, Ad, slr]) rfl (fun _ => rfl) (fun _ => ⟨rfl, rfl⟩) rfl (show Option.bind (Ao (u12) ((↑q10_5.Table.length : Int))) some = some (r19, u20) by rw [e24]; rfl) (fun r h => Av h) (fun b35 c36 hb => ?_)
  obtain ⟨rfl, rfl⟩ : r19 = b35 ∧ u20 = c36 := by cases hb; exact ⟨rfl, rfl⟩
  conv => whnf
  refine SameQ.mk ⟨rfl, ?_⟩
  conv => whnf
  refine Cells.lit rfl rfl ?_
  conv => whnf
  refine SameQ.mk ⟨rfl, ?_⟩
  conv => whnf
  refine SameQ.mk ⟨rfl, ?_⟩
  conv => whnf
  refine CallQ.io Af (rP true (Ak false)) (by first | rfl | simp only [Aa, V.fz, fzL, V.up, upL, Ab, Ac, Ad, slr, List.cons_append, List.nil_append] | simp [Aa, V.fz, fzL, V.up, upL, Ab, Ac, Ad, slr]) rfl (fun _ => rfl) (fun _ => ⟨rfl, rfl⟩) rfl (show Option.bind (Au (u20) ([(-1 : Int), r2, (0 : Int)])) some = some (r21, u22) by rw [e25]; rfl) (fun r h => A9 h) (fun b37 c38 hb => ?_)
  obtain ⟨rfl, rfl⟩ : r21 = b37 ∧ u22 = c38 := by cases hb; exact ⟨rfl, rfl⟩
  conv => whnf
  refine SameQ.mk ⟨rfl, ?_⟩
  conv => whnf
  refine Cells.lit rfl rfl ?_
  conv => whnf
  refine SameQ.mk ⟨rfl, ?_⟩
  conv => whnf
  refine Kid.lit rfl rfl ?_
  conv => whnf
  refine Len.map ?_
  conv => whnf
  refine Ask.mk p26 ?_
  conv => whnf
  refine Kid.lit rfl rfl ?_
  conv => whnf
  refine SetKids.one (fun _ => ⟨rfl, rfl⟩) (r21) (by first | rfl | simp only [Aa, V.fz, fzL, V.up, upL, Ab, Ac, Ad, slr, List.cons_append, List.nil_append] | simp [Aa, V.fz, fzL, V.up, upL, Ab, Ac, Ad, slr]) (by first | omega | (simp [A4] at *; omega)) ?_
  conv => whnf
  refine Kid.lit rfl rfl ?_
  conv => whnf
  refine SetKids.lit rfl ?_
  conv => whnf
  refine Cells.lit rfl rfl ?_
  conv => whnf
  refine SetKids.lit rfl ?_
  conv => whnf
  cases h; exact ⟨(by first | rfl | simp only [Ah, Aa, V.fz, fzL, V.up, upL, Ab, Ac, Ad, slr] | simp [Ah, Aa, V.fz, fzL, V.up, upL, Ab, Ac, Ad, slr]), (by first | rfl | simp only [Ah, Aa, V.fz, fzL, V.up, upL, Ab, Ac, Ad, slr] | simp [Ah, Aa, V.fz, fzL, V.up, upL, Ab, Ac, Ad, slr])⟩
 conv => whnf
 refine Br.oe h (fun p39 h => ?_) (fun p39 h => ?_)
 ·conv => whnf
  refine Cells.lit rfl rfl ?_
  conv => whnf
  refine BslQ.o Af ([(0 : Int)]) (by exact fun _ => ⟨rfl, rfl⟩) (by first | rfl | simp only [Aa, V.fz, fzL, V.up, upL, Ab, Ac, Ad, slr, List.cons_append, List.nil_append] | simp [Aa, V.fz, fzL, V.up, upL, Ab, Ac, Ad, slr]) ?_
  conv => whnf
  refine NoOwn.o (fun _ => rfl) ?_
  conv => whnf
  refine Kid.lit rfl rfl ?_
  conv => whnf
  refine Kid.lit rfl rfl ?_
  conv => whnf
  refine SetKids.lit rfl ?_
  conv => whnf
  refine AppQ.o (m := 1) Af (by exact fun _ => ⟨rfl, rfl⟩) (q10_5.Table) ([(0 : Int)]) (by first | rfl | simp only [Aa, V.fz, fzL, V.up, upL, Ab, Ac, Ad, slr, List.cons_append, List.nil_append] | simp [Aa, V.fz, fzL, V.up, upL, Ab, Ac, Ad, slr]) (by first | rfl | simp only [Aa, V.fz, fzL, V.up, upL, Ab, Ac, Ad, slr, List.cons_append, List.nil_append] | simp [Aa, V.fz, fzL, V.up, upL, Ab, Ac, Ad, slr]) h fun h => ?_
  conv => whnf
  refine SetKids.lit rfl ?_
  conv => whnf
  refine Cells.lit rfl rfl ?_
  conv => whnf
  refine SetKids.lit rfl ?_
  conv => whnf
  cases h; exact ⟨(by first | rfl | simp only [Ah, Aa, V.fz, fzL, V.up, upL, Ab, Ac, Ad, slr] | simp [Ah, Aa, V.fz, fzL, V.up, upL, Ab, Ac, Ad, slr]), (by first | rfl | simp only [Ah, Aa, V.fz, fzL, V.up, upL, Ab, Ac, Ad, slr] | simp [Ah, Aa, V.fz, fzL, V.up, upL, Ab, Ac, Ad, slr])⟩
 conv => whnf
 refine Cells.lit rfl rfl ?_
 conv => whnf
 refine SetKids.lit rfl ?_
 conv => whnf
 cases h; exact ⟨(by first | rfl | simp only [Ah, Aa, V.fz, fzL, V.up, upL, Ab, Ac, Ad, slr] | simp [Ah, Aa, V.fz, fzL, V.up, upL, Ab, Ac, Ad, slr]), (by first | rfl | simp only [Ah, Aa, V.fz, fzL, V.up, upL, Ab, Ac, Ad, slr] | simp [Ah, Aa, V.fz, fzL, V.up, upL, Ab, Ac, Ad, slr])⟩
noncomputable def Iv (a0 : SAlgebra) (b0 : SAlgebra) : Option Bool :=
 (Er (a0)).bind fun r1 =>
 if (r1) = true then
 (Er (b0)).bind fun r3 =>
 if (r3) = true then
 (Jy (a0) (b0)).bind fun r5 =>
 some r5
 else
 some false
 else
 some false
theorem Afn {a0 : SAlgebra} {b0 : SAlgebra} {v : Bool} (h : Iv a0 b0 = some v) : Ret Try.prog Qh [(Ai false) a0, (Ai false) b0] (V.bool v) := by
 refine A5 Agf (Nat.le_of_ble_eq_true rfl) ?_
 unfold Iv at h
 conv => whnf
 refine Cells.lit rfl rfl ?_
 conv => whnf
 refine CallQ.o V.bool (by first | rfl | simp only [Aa, V.fz, fzL, V.up, upL, Ab, Ac, Ad, slr, List.cons_append, List.nil_append] | simp [Aa, V.fz, fzL, V.up, upL, Ab, Ac, Ad, slr]) h (fun r h => Ol h) (fun r1 h => ?_)
 conv => whnf
 refine Br.ob h (fun p2 h => ?_) (fun p2 h => ?_)
 ·conv => whnf
  refine Cells.lit rfl rfl ?_
  conv => whnf
  refine Br.yes ?_
  conv => whnf
  refine CallQ.o V.bool (by first | rfl | simp only [Aa, V.fz, fzL, V.up, upL, Ab, Ac, Ad, slr, List.cons_append, List.nil_append] | simp [Aa, V.fz, fzL, V.up, upL, Ab, Ac, Ad, slr]) h (fun r h => Ol h) (fun r3 h => ?_)
  conv => whnf
  refine Br.yes ?_
  conv => whnf
  refine Br.ob h (fun p4 h => ?_) (fun p4 h => ?_)
  ·conv => whnf
   refine Cells.lit rfl rfl ?_
   conv => whnf
   refine Br.yes ?_
   conv => whnf
   refine Cells.lit rfl rfl ?_
   conv => whnf
   refine Br.yes ?_
   conv => whnf
   refine CallQ.o V.bool (by first | rfl | simp only [Aa, V.fz, fzL, V.up, upL, Ab, Ac, Ad, slr, List.cons_append, List.nil_append] | simp [Aa, V.fz, fzL, V.up, upL, Ab, Ac, Ad, slr]) h (fun r h => Ac4 h) (fun r5 h => ?_)
   conv => whnf
   refine Br.yes ?_
   conv => whnf
   cases h; exact (by first | rfl | simp only [Ah, Aa, V.fz, fzL, V.up, upL, Ab, Ac, Ad, slr] | simp [Ah, Aa, V.fz, fzL, V.up, upL, Ab, Ac, Ad, slr])
  conv => whnf
  refine Br.no ?_
  conv => whnf
  refine Br.no ?_
  conv => whnf
  refine Br.no ?_
  conv => whnf
  cases h; exact (by first | rfl | simp only [Ah, Aa, V.fz, fzL, V.up, upL, Ab, Ac, Ad, slr] | simp [Ah, Aa, V.fz, fzL, V.up, upL, Ab, Ac, Ad, slr])
 conv => whnf
 refine Br.no ?_
 conv => whnf
 refine Br.no ?_
 conv => whnf
 refine Br.no ?_
 conv => whnf
 refine Br.no ?_
 conv => whnf
 refine Br.no ?_
 conv => whnf
 refine Br.no ?_
 conv => whnf
 cases h; exact (by first | rfl | simp only [Ah, Aa, V.fz, fzL, V.up, upL, Ab, Ac, Ad, slr] | simp [Ah, Aa, V.fz, fzL, V.up, upL, Ab, Ac, Ad, slr])
noncomputable def Ku (a0 : SAlgebra) (b0 : SAlgebra) (f0 : (List Int)) : Option Bool :=
 (Ib (a0) (b0) (f0)).bind fun r1 =>
 if (r1) = true then
 (E1 (a0) (b0) (f0)).bind fun r3 =>
 some !r3.snd.snd
 else
 some false
theorem Ah4 {a0 : SAlgebra} {b0 : SAlgebra} {f0 : (List Int)} {v : Bool} (h : Ku a0 b0 f0 = some v) : Ret Try.prog Re [(Ai false) a0, (Ai false) b0, (slr false 1 Af) f0] (V.bool v) := by
 refine A5 Aij (Nat.le_of_ble_eq_true rfl) ?_
 unfold Ku at h
 conv => whnf
 refine Cells.lit rfl rfl ?_
 conv => whnf
 refine Cells.lit rfl rfl ?_
 conv => whnf
 refine CallQ.o V.bool (by first | rfl | simp only [Aa, V.fz, fzL, V.up, upL, Ab, Ac, Ad, slr, List.cons_append, List.nil_append] | simp [Aa, V.fz, fzL, V.up, upL, Ab, Ac, Ad, slr]) h (fun r h => Ags h) (fun r1 h => ?_)
 conv => whnf
 refine Br.flip ?_
 conv => whnf
 refine Br.ob h (fun p2 h => ?_) (fun p2 h => ?_)
 ·conv => whnf
  refine Cells.lit rfl rfl ?_
  conv => whnf
  refine Cells.lit rfl rfl ?_
  conv => whnf
  refine CallQ.o (fun r => V.tup [Af r.1, (slr true 1 Af) r.2.1, V.bool r.2.2]) (by first | rfl | simp only [Aa, V.fz, fzL, V.up, upL, Ab, Ac, Ad, slr, List.cons_append, List.nil_append] | simp [Aa, V.fz, fzL, V.up, upL, Ab, Ac, Ad, slr]) h (fun r h => Abq h) (fun r3 h => ?_)
  conv => whnf
  cases h; exact (by first | rfl | simp only [Ah, Aa, V.fz, fzL, V.up, upL, Ab, Ac, Ad, slr] | simp [Ah, Aa, V.fz, fzL, V.up, upL, Ab, Ac, Ad, slr])
 conv => whnf
 cases h; exact (by first | rfl | simp only [Ah, Aa, V.fz, fzL, V.up, upL, Ab, Ac, Ad, slr] | simp [Ah, Aa, V.fz, fzL, V.up, upL, Ab, Ac, Ad, slr])
noncomputable def Ii (n0 : Int) (op0 : SOp) (r0 : SRelation) : Option Bool :=
 (E8 (n0) (r0)).bind fun r1 =>
 if (r1) = true then
 (El (op0) (n0)).bind fun r3 =>
 if (r3) = true then
 (Cu ((↑r0.Tuples.length : Int)) (op0.Arity)).bind fun r5 =>
 some (decide (r5 ≤ (70000 : Int)))
 else
 some false
 else
 some false
theorem Aaw {n0 : Int} {op0 : SOp} {r0 : SRelation} {v : Bool} (h : Ii n0 op0 r0 = some v) : Ret Try.prog Mf [Af n0, (Aj false) op0, (Am false) r0] (V.bool v) := by
 refine A5 Abd (Nat.le_of_ble_eq_true rfl) ?_
 unfold Ii at h
 conv => whnf
 refine Cells.lit rfl rfl ?_
 conv => whnf
 refine CallQ.o V.bool (by first | rfl | simp only [Aa, V.fz, fzL, V.up, upL, Ab, Ac, Ad, slr, List.cons_append, List.nil_append] | simp [Aa, V.fz, fzL, V.up, upL, Ab, Ac, Ad, slr]) h (fun r h => Tq h) (fun r1 h => ?_)
 conv => whnf
 refine Br.ob h (fun p2 h => ?_) (fun p2 h => ?_)
 ·conv => whnf
  refine Cells.lit rfl rfl ?_
  conv => whnf
  refine Br.yes ?_
  conv => whnf
  refine Br.yes ?_
  conv => whnf
  refine CallQ.o V.bool (by first | rfl | simp only [Aa, V.fz, fzL, V.up, upL, Ab, Ac, Ad, slr, List.cons_append, List.nil_append] | simp [Aa, V.fz, fzL, V.up, upL, Ab, Ac, Ad, slr]) h (fun r h => Ks h) (fun r3 h => ?_)
  conv => whnf
  refine Br.yes ?_
  conv => whnf
  refine Br.ob h (fun p4 h => ?_) (fun p4 h => ?_)
  ·conv => whnf
   refine Br.yes ?_
   conv => whnf
   refine Cells.lit rfl rfl ?_
   conv => whnf
   refine Br.yes ?_
   conv => whnf
   refine Len.map ?_
   conv => whnf
   refine Br.yes ?_
   conv => whnf
   refine Br.yes ?_
   conv => whnf
   refine Cells.lit rfl rfl ?_
   conv => whnf
   refine Br.yes ?_
   conv => whnf
   refine CallQ.o Af (by first | rfl | simp only [Aa, V.fz, fzL, V.up, upL, Ab, Ac, Ad, slr, List.cons_append, List.nil_append] | simp [Aa, V.fz, fzL, V.up, upL, Ab, Ac, Ad, slr]) h (fun r h => Lv h) (fun r5 h => ?_)
   conv => whnf
   refine Br.yes ?_
   conv => whnf
   refine Br.yes ?_
   conv => whnf
   cases h; exact (by first | rfl | simp only [Ah, Aa, V.fz, fzL, V.up, upL, Ab, Ac, Ad, slr] | simp [Ah, Aa, V.fz, fzL, V.up, upL, Ab, Ac, Ad, slr])
  conv => whnf
  refine Br.no ?_
  conv => whnf
  refine Br.no ?_
  conv => whnf
  refine Br.no ?_
  conv => whnf
  refine Br.no ?_
  conv => whnf
  refine Br.no ?_
  conv => whnf
  refine Br.no ?_
  conv => whnf
  refine Br.no ?_
  conv => whnf
  cases h; exact (by first | rfl | simp only [Ah, Aa, V.fz, fzL, V.up, upL, Ab, Ac, Ad, slr] | simp [Ah, Aa, V.fz, fzL, V.up, upL, Ab, Ac, Ad, slr])
 conv => whnf
 refine Br.no ?_
 conv => whnf
 refine Br.no ?_
 conv => whnf
 refine Br.no ?_
 conv => whnf
 refine Br.no ?_
 conv => whnf
 refine Br.no ?_
 conv => whnf
 refine Br.no ?_
 conv => whnf
 refine Br.no ?_
 conv => whnf
 refine Br.no ?_
 conv => whnf
 refine Br.no ?_
 conv => whnf
 refine Br.no ?_
 conv => whnf
 refine Br.no ?_
 conv => whnf
 cases h; exact (by first | rfl | simp only [Ah, Aa, V.fz, fzL, V.up, upL, Ab, Ac, Ad, slr] | simp [Ah, Aa, V.fz, fzL, V.up, upL, Ab, Ac, Ad, slr])
noncomputable def Hl (a0 : SAlgebra) (b0 : SAlgebra) : Option (Bool × Bool) :=
 (Cn (a0)).bind fun r1 =>
 if (r1) = true then
 (Cn (b0)).bind fun r3 =>
 if (r3) = true then
 (Fm (a0)).bind fun r5 =>
 (Fm (b0)).bind fun r6 =>
 (Fj (r5) (r6)).bind fun r7 =>
 some (r7, true)
 else
 some (false, false)
 else
 some (false, false)
theorem Yg {a0 : SAlgebra} {b0 : SAlgebra} {v : (Bool × Bool)} (h : Hl a0 b0 = some v) : Ret Try.prog Lc [(Ai false) a0, (Ai false) b0] ((fun r => V.tup [V.bool r.1, V.bool r.2]) v) := by
 refine A5 Yw (Nat.le_of_ble_eq_true rfl) ?_
 unfold Hl at h
 conv => whnf
 refine Cells.lit rfl rfl ?_
 conv => whnf
 refine CallQ.o V.bool (by first | rfl | simp only [Aa, V.fz, fzL, V.up, upL, Ab, Ac, Ad, slr, List.cons_append, List.nil_append] | simp [Aa, V.fz, fzL, V.up, upL, Ab, Ac, Ad, slr]) h (fun r h => G0 h) (fun r1 h => ?_)
 conv => whnf
 refine Br.flip ?_
 conv => whnf
 refine Br.ob h (fun p2 h => ?_) (fun p2 h => ?_)
 ·conv => whnf
  refine Cells.lit rfl rfl ?_
  conv => whnf
  refine Br.no ?_
  conv => whnf
  refine CallQ.o V.bool (by first | rfl | simp only [Aa, V.fz, fzL, V.up, upL, Ab, Ac, Ad, slr, List.cons_append, List.nil_append] | simp [Aa, V.fz, fzL, V.up, upL, Ab, Ac, Ad, slr]) h (fun r h => G0 h) (fun r3 h => ?_)
  conv => whnf
  refine Br.no ?_
  conv => whnf
  refine Br.no ?_
  conv => whnf
  refine Br.flip ?_
  conv => whnf
  refine Br.ob h (fun p4 h => ?_) (fun p4 h => ?_)
  ·conv => whnf
   refine Cells.lit rfl rfl ?_
   conv => whnf
   refine CallP.o (slr true 1 Af) (by first | rfl | simp only [Aa, V.fz, fzL, V.up, upL, Ab, Ac, Ad, slr, List.cons_append, List.nil_append] | simp [Aa, V.fz, fzL, V.up, upL, Ab, Ac, Ad, slr]) h (fun r h => S7 h) (fun r5 h => ?_)
   conv => whnf
   refine Cells.lit rfl rfl ?_
   conv => whnf
   refine CallQ.o (slr true 1 Af) (by first | rfl | simp only [Aa, V.fz, fzL, V.up, upL, Ab, Ac, Ad, slr, List.cons_append, List.nil_append] | simp [Aa, V.fz, fzL, V.up, upL, Ab, Ac, Ad, slr]) h (fun r h => S7 h) (fun r6 h => ?_)
   conv => whnf
   refine CallQ.rd V.bool (by first | rfl | simp only [V.fz, Ab, slr] | simp [Aa, V.fz, fzL, V.up, upL, Ab, Ac, Ad, slr]) (fun _ => rfl) h (fun r h => Yu h) (fun r7 h => ?_)
   conv => whnf
   cases h; exact (by first | rfl | simp only [Ah, Aa, V.fz, fzL, V.up, upL, Ab, Ac, Ad, slr] | simp [Ah, Aa, V.fz, fzL, V.up, upL, Ab, Ac, Ad, slr])
  conv => whnf
  cases h; exact (by first | rfl | simp only [Ah, Aa, V.fz, fzL, V.up, upL, Ab, Ac, Ad, slr] | simp [Ah, Aa, V.fz, fzL, V.up, upL, Ab, Ac, Ad, slr])
 conv => whnf
 refine Br.yes ?_
 conv => whnf
 refine Br.yes ?_
 conv => whnf
 refine Br.yes ?_
 conv => whnf
 refine Br.yes ?_
 conv => whnf
 cases h; exact (by first | rfl | simp only [Ah, Aa, V.fz, fzL, V.up, upL, Ab, Ac, Ad, slr] | simp [Ah, Aa, V.fz, fzL, V.up, upL, Ab, Ac, Ad, slr])
end Go.Proofs.Ytcpgnfohmeineaa.Ax
