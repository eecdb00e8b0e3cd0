/-
 What the functions compute, as functions on plain data, and that the program does compute it; written by program.
-/
import Derived.Test.YtcpgnfohmeineaaCode
import Derived.Test.YtcpgnfohmeineaaG2
import Derived.Test.YtcpgnfohmeineaaG6
import Derived.Test.YtcpgnfohmeineaaG7
import Derived.Test.YtcpgnfohmeineaaG8
import Derived.Test.YtcpgnfohmeineaaG9
namespace Go.Proofs.Ytcpgnfohmeineaa.Ax
open Go
set_option maxRecDepth 100000
set_option maxHeartbeats 4000000
noncomputable def Di (code0 : (List Int)) : Option (Int × SOp × SOp) :=
 (Dg ({ code := code0, at_ := (0 : Int), seed := (0 : Int) })).bind fun (r1, u2) =>
 (((((Er (r1)).bind fun r3 =>
 if (r3) = true then
 if r1.Size ≤ (4 : Int) then
 if (↑r1.Ops.length : Int) > (0 : Int) then
 (D4 (u2) ((2 : Int))).bind fun (r7, u8) =>
 some (r7, u8)
 else
 some (false, u2)
 else
 some (false, u2)
 else
 some (false, u2) : Option (Bool × Sl1Cur))).bind fun (q9_30, q9_5) =>
 if (q9_30) = true then
 (Ao (q9_5) ((↑r1.Ops.length : Int))).bind fun (r11, u12) =>
 ask ((0 : Int) ≤ r11 ∧ r11 < (↑r1.Ops.length : Int)) <|
 (Fn (nth r1.Ops r11.toNat)).bind fun r14 =>
 (Ao (u12) ((↑r1.Ops.length : Int))).bind fun (r15, _u16) =>
 ask ((0 : Int) ≤ r15 ∧ r15 < (↑r1.Ops.length : Int)) <|
 (Fn (nth r1.Ops r15.toNat)).bind fun r18 =>
 some (.inl (r18, r14))
 else
 some (.inr q9_5) : Option ((SOp × SOp) ⊕ Sl1Cur))).bind fun t => match t with
 | (.inl (q19_4, q19_3)) => (some (r1.Size, q19_3, q19_4))
 | (.inr q19_5) => ((Ao (q19_5) ((24 : Int))).bind fun (r20, u21) =>
 ask ((11 : Int) ≠ (0 : Int) ∧ InI (r20.tdiv (11 : Int))) <|
 ask (InI ((5 : Int) + r20.tdiv (11 : Int))) <|
 ask (0 ≤ (0 : Int) ∧ (0 : Int) ≤ (5 : Int) + r20.tdiv (11 : Int) ∧ (5 : Int) + r20.tdiv (11 : Int) ≤ (([(1 : Int), (2 : Int), (2 : Int), (3 : Int), (4 : Int), (0 : Int), (5 : Int)].length : Nat) : Int)) <|
 (Au (u21) (List.take (((5 : Int) + r20.tdiv (11 : Int)).toNat - Int.toNat (0 : Int)) (List.drop (Int.toNat (0 : Int)) [(1 : Int), (2 : Int), (2 : Int), (3 : Int), (4 : Int), (0 : Int), (5 : Int)]))).bind fun (r24, u25) =>
 (Bf (u25) (r24)).bind fun (r26, u27) =>
 (Bf (u27) (r24)).bind fun (r28, _u29) =>
 some (r24, r26, r28))
theorem Rb {code0 : (List Int)} {v : (Int × SOp × SOp)} (h : Di code0 = some v) : Ret Try.prog Gl [(slr false 1 (V.int IntKind.u8)) code0] ((fun r => V.tup [Af r.1, (Aj false) r.2.1, (Aj false) r.2.2]) v) := by
 refine Aou Q6 (Nat.le_of_ble_eq_true rfl) ?_
 unfold Di at h
 conv => whnf
 refine CallQ.io (Ai true) (rP true (Ak false)) (by first | rfl | simp only [Aa, V.fz, fzL, V.up, upL, Ab, Ac, Ad, slr, List.cons_append, List.nil_append] | simp [Aa, V.fz, fzL, V.up, upL, Ab, Ac, Ad, slr]) rfl (fun _ => rfl) (fun _ => ⟨rfl, rfl⟩) rfl h (fun r h => Rw h) (fun r1 u2 h => ?_)
 conv => whnf
 refine SetKids.lit rfl ?_
 conv => whnf
 refine CutQ.o (fun t : ((SOp × SOp) ⊕ Sl1Cur) => match t with | (.inl s) => (Ex.ret, [2, 4, 3], [(2, A.val (Af (r1.Size))), (4, A.val ((rP true (Aj true)) s.1)), (3, A.val ((rP true (Aj true)) s.2))]) | (.inr s) => (Ex.normal, [5, 4, 3], [(5, A.val ((rP true (Ak false)) s)), (4, A.val ((rP true (Aj true)) ({ Arity := (0 : Int), Table := Bl Int }))), (3, A.val ((rP true (Aj true)) ({ Arity := (0 : Int), Table := Bl Int })))])) h ?_ ?_
 ·intro t h
  conv => whnf
  refine CutQ.o (fun t : (Bool × Sl1Cur) => match t with | s => (Ex.normal, [30, 6, 5, 4, 3], [(30, A.val (V.bool s.1)), (6, A.val ((rP false (Ai false)) (r1))), (5, A.val ((rP true (Ak false)) s.2)), (4, A.val ((rP true (Aj true)) ({ Arity := (0 : Int), Table := Bl Int }))), (3, A.val ((rP true (Aj true)) ({ Arity := (0 : Int), Table := Bl Int })))])) h ?_ ?_
  ·intro t h
   conv => whnf
   refine FrzQ.d ((rP false (Ai false)) r1) ((Oq _).trans (Eq.trans (b := V.fz ((rP true (Ai true)) r1)) rfl (Ad (rP true (Ai true)) _))) ?_
   conv => whnf
   refine CallQ.o V.bool (by first | rfl | simp only [Aa, V.fz, fzL, V.up, upL, Ab, Ac, Ad, slr, List.cons_append, List.nil_append] | simp [Aa, V.fz, fzL, V.up, upL, Ab, Ac, Ad, slr]) h (fun r h => Ol h) (fun r3 h => ?_)
   conv => whnf
   refine Br.ob h (fun p4 h => ?_) (fun p4 h => ?_)
   ·conv => whnf
    refine Br.yes ?_
    conv => whnf
    refine Br.yes ?_
    conv => whnf
    refine Br.yes ?_
    conv => whnf
    refine Br.od h (fun p5 h => ?_) (fun p5 h => ?_)
    ·conv => whnf
     refine Br.yes ?_
     conv => whnf
     refine Br.yes ?_
     conv => whnf
     refine Len.map ?_
     conv => whnf
     refine Br.yes ?_
     conv => whnf
     refine Br.yes ?_
     conv => whnf
     refine Br.od h (fun p6 h => ?_) (fun p6 h => ?_)
     ·conv => whnf
      refine Br.yes ?_
      conv => whnf
      refine CallQ.io V.bool (rP true (Ak false)) (by first | rfl | simp only [Aa, V.fz, fzL, V.up, upL, Ab, Ac, Ad, slr, List.cons_append, List.nil_append] | simp [Aa, V.fz, fzL, V.up, upL, Ab, Ac, Ad, slr]) rfl (fun _ => rfl) (fun _ => ⟨rfl, rfl⟩) rfl h (fun r h => Oo h) (fun r7 u8 h => ?_)
      conv => whnf
      refine Br.yes ?_
      conv => whnf
      cases h; exact ⟨rfl, rfl⟩
     conv => whnf
     refine Br.no ?_
     conv => whnf
     refine Br.no ?_
     conv => whnf
     cases h; exact ⟨rfl, rfl⟩
    conv => whnf
    refine Br.no ?_
    conv => whnf
    refine Br.no ?_
    conv => whnf
    refine Br.no ?_
    conv => whnf
    refine Br.no ?_
    conv => whnf
    refine Br.no ?_
    conv => whnf
    refine Br.no ?_
    conv => whnf
    refine Br.no ?_
    conv => whnf
    cases h; exact ⟨rfl, rfl⟩
   conv => whnf
   refine Br.no ?_
   conv => whnf
   refine Br.no ?_
   conv => whnf
   refine Br.no ?_
   conv => whnf
   refine Br.no ?_
   conv => whnf
   refine Br.no ?_
   conv => whnf
   refine Br.no ?_
   conv => whnf
   refine Br.no ?_
   conv => whnf
   refine Br.no ?_
   conv => whnf
   refine Br.no ?_
   conv => whnf
   refine Br.no ?_
   conv => whnf
   refine Br.no ?_
   conv => whnf
   cases h; exact ⟨rfl, rfl⟩
  rintro ⟨q9_30, q9_5⟩ h
  try dsimp only at h
  conv => whnf
  refine Br.ob h (fun p10 h => ?_) (fun p10 h => ?_)
  ·conv => whnf
   refine Len.map ?_
   conv => whnf
   refine LendP.io Af (rP true (Ak false)) (by first | rfl | simp only [Aa, V.fz, fzL, V.up, upL, Ab, Ac, Ad, slr, List.cons_append, List.nil_append] | simp [Aa, V.fz, fzL, V.up, upL, Ab, Ac, Ad, slr]) (fun _ => rfl) (fun _ => ⟨rfl, rfl⟩) (fun _ => rfl) h (fun r h => Av h) (fun r11 u12 h => ?_)
   conv => whnf
   refine Len.map ?_
   conv => whnf
   refine Ask.o h fun p13 h => ?_
   conv => whnf
   refine Elem.o (by first | omega | (simp [A4] at *; omega)) ?_
   conv => whnf
   refine SetKids.lit rfl ?_
   conv => whnf
   refine Cells.lit rfl rfl ?_
   conv => whnf
   refine CallP.o (Aj true) (by first | rfl | simp only [Aa, V.fz, fzL, V.up, upL, Ab, Ac, Ad, slr, List.cons_append, List.nil_append] | simp [Aa, V.fz, fzL, V.up, upL, Ab, Ac, Ad, slr]) h (fun r h => Tc h) (fun r14 h => ?_)
   conv => whnf
   refine Len.map ?_
   conv => whnf
   refine LendP.io Af (rP true (Ak false)) (by first | rfl | simp only [Aa, V.fz, fzL, V.up, upL, Ab, Ac, Ad, slr, List.cons_append, List.nil_append] | simp [Aa, V.fz, fzL, V.up, upL, Ab, Ac, Ad, slr]) (fun _ => rfl) (fun _ => ⟨rfl, rfl⟩) (fun _ => rfl) h (fun r h => Av h) (fun r15 u16 h => ?_)
   conv => whnf
   refine Len.map ?_
   conv => whnf
   refine Ask.o h fun p17 h => ?_
   conv => whnf
   refine Elem.o (by first | omega | (simp [A4] at *; omega)) ?_
   conv => whnf
   refine CallP.o (Aj true) (by first | rfl | simp only [Aa, V.fz, fzL, V.up, upL, Ab, Ac, Ad, slr, List.cons_append, List.nil_append] | simp [Aa, V.fz, fzL, V.up, upL, Ab, Ac, Ad, slr]) h (fun r h => Tc h) (fun r18 h => ?_)
   conv => whnf
   refine SetKids.lit rfl ?_
   conv => whnf
   refine SetKids.lit rfl ?_
   conv => whnf
   cases h; exact ⟨rfl, rfl⟩
  conv => whnf
  cases h; exact ⟨rfl, rfl⟩
 rintro (⟨q19_4, q19_3⟩ | q19_5) h
 ·try dsimp only at h
  conv => whnf
  cases h; exact (by first | rfl | simp only [Ah, V.fz, fzL, V.up, Ab, slr] | simp [Ah, Aa, V.fz, fzL, V.up, upL, Ab, Ac, Ad, slr])
 try dsimp only at h
 conv => whnf
 refine BslQ.o Af ([(1 : Int), (2 : Int), (2 : Int), (3 : Int), (4 : Int), (0 : Int), (5 : Int)]) (by exact fun _ => ⟨rfl, rfl⟩) (by first | rfl | simp only [Aa, V.fz, fzL, V.up, upL, Ab, Ac, Ad, slr, List.cons_append, List.nil_append] | simp [Aa, V.fz, fzL, V.up, upL, Ab, Ac, Ad, slr]) ?_
 conv => whnf
 refine CallQ.io Af (rP true (Ak false)) (by first | rfl | simp only [Aa, V.fz, fzL, V.up, upL, Ab, Ac, Ad, slr, List.cons_append, List.nil_append] | simp [Aa, V.fz, fzL, V.up, upL, Ab, Ac, Ad, slr]) rfl (fun _ => rfl) (fun _ => ⟨rfl, rfl⟩) rfl h (fun r h => Av h) (fun r20 u21 h => ?_)
 conv => whnf
 refine Ask.o h fun p22 h => ?_
 conv => whnf
 refine Ask.o h fun p23 h => ?_
 conv => whnf
 refine SlcQ.lst (xs := [(1 : Int), (2 : Int), (2 : Int), (3 : Int), (4 : Int), (0 : Int), (5 : Int)]) Af (by first | rfl | simp only [Aa, V.fz, fzL, V.up, upL, Ab, Ac, Ad, slr, List.cons_append, List.nil_append] | simp [Aa, V.fz, fzL, V.up, upL, Ab, Ac, Ad, slr]) h fun h => ?_
 conv => whnf
 refine CallQ.io Af (rP true (Ak false)) (by first | rfl | simp only [Aa, V.fz, fzL, V.up, upL, Ab, Ac, Ad, slr, List.cons_append, List.nil_append] | simp [Aa, V.fz, fzL, V.up, upL, Ab, Ac, Ad, slr]) rfl (fun _ => rfl) (fun _ => ⟨rfl, rfl⟩) rfl h (fun r h => A9 h) (fun r24 u25 h => ?_)
 conv => whnf
 refine CallQ.io (Aj true) (rP true (Ak false)) (by first | rfl | simp only [Aa, V.fz, fzL, V.up, upL, Ab, Ac, Ad, slr, List.cons_append, List.nil_append] | simp [Aa, V.fz, fzL, V.up, upL, Ab, Ac, Ad, slr]) rfl (fun _ => rfl) (fun _ => ⟨rfl, rfl⟩) rfl h (fun r h => H3 h) (fun r26 u27 h => ?_)
 conv => whnf
 refine CallQ.io (Aj true) (rP true (Ak false)) (by first | rfl | simp only [Aa, V.fz, fzL, V.up, upL, Ab, Ac, Ad, slr, List.cons_append, List.nil_append] | simp [Aa, V.fz, fzL, V.up, upL, Ab, Ac, Ad, slr]) rfl (fun _ => rfl) (fun _ => ⟨rfl, rfl⟩) rfl h (fun r h => H3 h) (fun r28 u29 h => ?_)
 conv => whnf
 refine SetKids.lit rfl ?_
 conv => whnf
 refine SetKids.lit rfl ?_
 conv => whnf
 cases h; exact (by first | rfl | simp only [Ah, V.fz, fzL, V.up, Ab, slr] | simp [Ah, Aa, V.fz, fzL, V.up, upL, Ab, Ac, Ad, slr])
noncomputable def I5 (a0 : SAlgebra) (b0 : SAlgebra) (f0 : (List Int)) : Option (Bool × Bool) :=
 (Iv (a0) (b0)).bind fun r1 =>
 if (r1) = true then
 (Ku (a0) (b0) (f0)).bind fun r3 =>
 some (r3, true)
 else
 some (false, false)
theorem Agj {a0 : SAlgebra} {b0 : SAlgebra} {f0 : (List Int)} {v : (Bool × Bool)} (h : I5 a0 b0 f0 = some v) : Ret Try.prog P8 [(Ai false) a0, (Ai false) b0, (slr false 1 Af) f0] ((fun r => V.tup [V.bool r.1, V.bool r.2]) v) := by
 refine A5 Afu (Nat.le_of_ble_eq_true rfl) ?_
 unfold I5 at h
 conv => whnf
 refine Cells.lit rfl rfl ?_
 conv => whnf
 refine Cells.lit rfl rfl ?_
 conv => whnf
 refine CallQ.o V.bool (by first | rfl | simp only [Aa, V.fz, fzL, V.up, upL, Ab, Ac, Ad, slr, List.cons_append, List.nil_append] | simp [Aa, V.fz, fzL, V.up, upL, Ab, Ac, Ad, slr]) h (fun r h => Afn h) (fun r1 h => ?_)
 conv => whnf
 refine Br.flip ?_
 conv => whnf
 refine Br.ob h (fun p2 h => ?_) (fun p2 h => ?_)
 ·conv => whnf
  refine Cells.lit rfl rfl ?_
  conv => whnf
  refine Cells.lit rfl rfl ?_
  conv => whnf
  refine CallQ.o V.bool (by first | rfl | simp only [Aa, V.fz, fzL, V.up, upL, Ab, Ac, Ad, slr, List.cons_append, List.nil_append] | simp [Aa, V.fz, fzL, V.up, upL, Ab, Ac, Ad, slr]) h (fun r h => Ah4 h) (fun r3 h => ?_)
  conv => whnf
  cases h; exact (by first | rfl | simp only [Ah, Aa, V.fz, fzL, V.up, upL, Ab, Ac, Ad, slr] | simp [Ah, Aa, V.fz, fzL, V.up, upL, Ab, Ac, Ad, slr])
 conv => whnf
 cases h; exact (by first | rfl | simp only [Ah, Aa, V.fz, fzL, V.up, upL, Ab, Ac, Ad, slr] | simp [Ah, Aa, V.fz, fzL, V.up, upL, Ab, Ac, Ad, slr])
noncomputable def Fi (n0 : Int) (op0 : SOp) (r0 : SRelation) : Option (Bool × Bool) :=
 (Ii (n0) (op0) (r0)).bind fun r1 =>
 if (r1) = true then
 (En (n0) (op0) (r0)).bind fun r3 =>
 some (!r3.snd.snd, true)
 else
 some (false, false)
theorem X7 {n0 : Int} {op0 : SOp} {r0 : SRelation} {v : (Bool × Bool)} (h : Fi n0 op0 r0 = some v) : Ret Try.prog K7 [Af n0, (Aj false) op0, (Am false) r0] ((fun r => V.tup [V.bool r.1, V.bool r.2]) v) := by
 refine A5 Yh (Nat.le_of_ble_eq_true rfl) ?_
 unfold Fi at h
 conv => whnf
 refine Cells.lit rfl rfl ?_
 conv => whnf
 refine Cells.lit rfl rfl ?_
 conv => whnf
 refine CallQ.o V.bool (by first | rfl | simp only [Aa, V.fz, fzL, V.up, upL, Ab, Ac, Ad, slr, List.cons_append, List.nil_append] | simp [Aa, V.fz, fzL, V.up, upL, Ab, Ac, Ad, slr]) h (fun r h => Aaw h) (fun r1 h => ?_)
 conv => whnf
 refine Br.flip ?_
 conv => whnf
 refine Br.ob h (fun p2 h => ?_) (fun p2 h => ?_)
 ·conv => whnf
  refine Cells.lit rfl rfl ?_
  conv => whnf
  refine Cells.lit rfl rfl ?_
  conv => whnf
  refine CallQ.o (fun r => V.tup [(slr true 1 Af) r.1, (slr true 1 Af) r.2.1, V.bool r.2.2]) (by first | rfl | simp only [Aa, V.fz, fzL, V.up, upL, Ab, Ac, Ad, slr, List.cons_append, List.nil_append] | simp [Aa, V.fz, fzL, V.up, upL, Ab, Ac, Ad, slr]) h (fun r h => Vh h) (fun r3 h => ?_)
  conv => whnf
  cases h; exact (by first | rfl | simp only [Ah, Aa, V.fz, fzL, V.up, upL, Ab, Ac, Ad, slr] | simp [Ah, Aa, V.fz, fzL, V.up, upL, Ab, Ac, Ad, slr])
 conv => whnf
 cases h; exact (by first | rfl | simp only [Ah, Aa, V.fz, fzL, V.up, upL, Ab, Ac, Ad, slr] | simp [Ah, Aa, V.fz, fzL, V.up, upL, Ab, Ac, Ad, slr])
noncomputable def Ly (a0 : SAlgebra) (b0 : SAlgebra) : Option Bool :=
 (Hl (a0) (b0)).bind fun r1 =>
 if (r1.snd) = true then
 some r1.fst
 else
 some false
theorem Agc {a0 : SAlgebra} {b0 : SAlgebra} {v : Bool} (h : Ly a0 b0 = some v) : Ret Try.prog Ps [(Ai false) a0, (Ai false) b0] (V.bool v) := by
 refine A5 Aem (Nat.le_of_ble_eq_true rfl) ?_
 unfold Ly at h
 conv => whnf
 refine Cells.lit rfl rfl ?_
 conv => whnf
 refine Cells.lit rfl rfl ?_
 conv => whnf
 refine CallQ.o (fun r => V.tup [V.bool r.1, V.bool r.2]) (by first | rfl | simp only [Aa, V.fz, fzL, V.up, upL, Ab, Ac, Ad, slr, List.cons_append, List.nil_append] | simp [Aa, V.fz, fzL, V.up, upL, Ab, Ac, Ad, slr]) h (fun r h => Yg h) (fun r1 h => ?_)
 conv => whnf
 refine Br.ob h (fun p2 h => ?_) (fun p2 h => ?_)
 ·conv => whnf
  refine Br.yes ?_
  conv => whnf
  cases h; exact (by first | rfl | simp only [Ah, Aa, V.fz, fzL, V.up, upL, Ab, Ac, Ad, slr] | simp [Ah, Aa, V.fz, fzL, V.up, upL, Ab, Ac, Ad, slr])
 conv => whnf
 refine Br.no ?_
 conv => whnf
 cases h; exact (by first | rfl | simp only [Ah, Aa, V.fz, fzL, V.up, upL, Ab, Ac, Ad, slr] | simp [Ah, Aa, V.fz, fzL, V.up, upL, Ab, Ac, Ad, slr])
noncomputable def Fk (a0 : SAlgebra) (b0 : SAlgebra) : Option Bool :=
 (Cn (a0)).bind fun r1 =>
 if (r1) = true then
 (Cn (b0)).bind fun r3 =>
 if (r3) = true then
 (Ly (a0) (b0)).bind fun r5 =>
 some r5
 else
 some false
 else
 some false
theorem Yz {a0 : SAlgebra} {b0 : SAlgebra} {v : Bool} (h : Fk a0 b0 = some v) : Ret Try.prog K8 [(Ai false) a0, (Ai false) b0] (V.bool v) := by
 refine A5 Yp (Nat.le_of_ble_eq_true rfl) ?_
 unfold Fk at h
 conv => whnf
 refine Cells.lit rfl rfl ?_
 conv => whnf
 refine CallQ.o V.bool (by first | rfl | simp only [Aa, V.fz, fzL, V.up, upL, Ab, Ac, Ad, slr, List.cons_append, List.nil_append] | simp [Aa, V.fz, fzL, V.up, upL, Ab, Ac, Ad, slr]) h (fun r h => G0 h) (fun r1 h => ?_)
 conv => whnf
 refine Br.ob h (fun p2 h => ?_) (fun p2 h => ?_)
 ·conv => whnf
  refine Cells.lit rfl rfl ?_
  conv => whnf
  refine Br.yes ?_
  conv => whnf
  refine CallQ.o V.bool (by first | rfl | simp only [Aa, V.fz, fzL, V.up, upL, Ab, Ac, Ad, slr, List.cons_append, List.nil_append] | simp [Aa, V.fz, fzL, V.up, upL, Ab, Ac, Ad, slr]) h (fun r h => G0 h) (fun r3 h => ?_)
  conv => whnf
  refine Br.yes ?_
  conv => whnf
  refine Br.ob h (fun p4 h => ?_) (fun p4 h => ?_)
  ·conv => whnf
   refine Cells.lit rfl rfl ?_
   conv => whnf
   refine Br.yes ?_
   conv => whnf
   refine Cells.lit rfl rfl ?_
   conv => whnf
   refine Br.yes ?_
   conv => whnf
   refine CallQ.o V.bool (by first | rfl | simp only [Aa, V.fz, fzL, V.up, upL, Ab, Ac, Ad, slr, List.cons_append, List.nil_append] | simp [Aa, V.fz, fzL, V.up, upL, Ab, Ac, Ad, slr]) h (fun r h => Agc h) (fun r5 h => ?_)
   conv => whnf
   refine Br.yes ?_
   conv => whnf
   cases h; exact (by first | rfl | simp only [Ah, Aa, V.fz, fzL, V.up, upL, Ab, Ac, Ad, slr] | simp [Ah, Aa, V.fz, fzL, V.up, upL, Ab, Ac, Ad, slr])
  conv => whnf
  refine Br.no ?_
  conv => whnf
  refine Br.no ?_
  conv => whnf
  refine Br.no ?_
  conv => whnf
  cases h; exact (by first | rfl | simp only [Ah, Aa, V.fz, fzL, V.up, upL, Ab, Ac, Ad, slr] | simp [Ah, Aa, V.fz, fzL, V.up, upL, Ab, Ac, Ad, slr])
 conv => whnf
 refine Br.no ?_
 conv => whnf
 refine Br.no ?_
 conv => whnf
 refine Br.no ?_
 conv => whnf
 refine Br.no ?_
 conv => whnf
 refine Br.no ?_
 conv => whnf
 refine Br.no ?_
 conv => whnf
 cases h; exact (by first | rfl | simp only [Ah, Aa, V.fz, fzL, V.up, upL, Ab, Ac, Ad, slr] | simp [Ah, Aa, V.fz, fzL, V.up, upL, Ab, Ac, Ad, slr])
noncomputable def In (a0 : SAlgebra) (b0 : SAlgebra) (f0 : (List Int)) : Option (Bool × Bool) :=
 (Fk (a0) (b0)).bind fun r1 =>
 if (r1) = true then
 (Il (a0) (b0) (f0)).bind fun r3 =>
 some (r3, true)
 else
 some (false, false)
theorem Ae0 {a0 : SAlgebra} {b0 : SAlgebra} {f0 : (List Int)} {v : (Bool × Bool)} (h : In a0 b0 f0 = some v) : Ret Try.prog Pr [(Ai false) a0, (Ai false) b0, (slr false 1 Af) f0] ((fun r => V.tup [V.bool r.1, V.bool r.2]) v) := by
 refine A5 Aep (Nat.le_of_ble_eq_true rfl) ?_
 unfold In at h
 conv => whnf
 refine Cells.lit rfl rfl ?_
 conv => whnf
 refine Cells.lit rfl rfl ?_
 conv => whnf
 refine CallQ.o V.bool (by first | rfl | simp only [Aa, V.fz, fzL, V.up, upL, Ab, Ac, Ad, slr, List.cons_append, List.nil_append] | simp [Aa, V.fz, fzL, V.up, upL, Ab, Ac, Ad, slr]) h (fun r h => Yz h) (fun r1 h => ?_)
 conv => whnf
 refine Br.flip ?_
 conv => whnf
 refine Br.ob h (fun p2 h => ?_) (fun p2 h => ?_)
 ·conv => whnf
  refine Cells.lit rfl rfl ?_
  conv => whnf
  refine Cells.lit rfl rfl ?_
  conv => whnf
  refine CallQ.o V.bool (by first | rfl | simp only [Aa, V.fz, fzL, V.up, upL, Ab, Ac, Ad, slr, List.cons_append, List.nil_append] | simp [Aa, V.fz, fzL, V.up, upL, Ab, Ac, Ad, slr]) h (fun r h => Afp h) (fun r3 h => ?_)
  conv => whnf
  cases h; exact (by first | rfl | simp only [Ah, Aa, V.fz, fzL, V.up, upL, Ab, Ac, Ad, slr] | simp [Ah, Aa, V.fz, fzL, V.up, upL, Ab, Ac, Ad, slr])
 conv => whnf
 cases h; exact (by first | rfl | simp only [Ah, Aa, V.fz, fzL, V.up, upL, Ab, Ac, Ad, slr] | simp [Ah, Aa, V.fz, fzL, V.up, upL, Ab, Ac, Ad, slr])
end Go.Proofs.Ytcpgnfohmeineaa.Ax
