/-
 What the functions compute, as functions on plain data, and that the program does compute it; written by program.
-/
import Derived.Test.YtcpgnfohmeineaaCode
namespace Go.Proofs.Ytcpgnfohmeineaa.Ax
open Go
set_option maxRecDepth 100000
set_option maxHeartbeats 4000000
noncomputable def N3 (code0 : (List Int)) : Option Bool :=
 some (decide ((↑code0.length : Int) > (65536 : Int)))
theorem Aim {code0 : (List Int)} {v : Bool} (h : N3 code0 = some v) : Ret Try.prog Se [(slr false 1 (V.int IntKind.u8)) code0] (V.bool v) := by
 refine A5 Aiz (Nat.le_of_ble_eq_true rfl) ?_
 unfold N3 at h
 conv => whnf
 refine Len.map ?_
 conv => whnf
 cases h; exact (by first | rfl | simp only [Ah, Aa, V.fz, fzL, V.up, upL, Ab, Ac, Ad, slr] | simp [Ah, Aa, V.fz, fzL, V.up, upL, Ab, Ac, Ad, slr])
noncomputable def Dt (a0 : List Int) (b0 : List Int) : Int → Option (Int ⊕ (Unit ⊕ Unit)) := fun x5 =>
 if x5 < (↑a0.length : Int) then
 ask ((0 : Int) ≤ x5 ∧ x5 < (↑a0.length : Int)) <|
 ask ((0 : Int) ≤ x5 ∧ x5 < (↑b0.length : Int)) <|
 if nth a0 x5.toNat ≠ nth b0 x5.toNat then
 some (.inr (.inl ()))
 else
 ask (InI (x5 + (1 : Int))) <|
 some (.inl (x5 + (1 : Int)))
 else
 some (.inr (.inr ()))
def K2 (a0 : List Int) (b0 : List Int) : Int → St := fun s => [(5, A.val (Af s)), (0, A.val ((slr false 1 Af) (a0))), (1, A.val ((slr false 1 Af) (b0)))]
def Qp (_a0 : List Int) (_b0 : List Int) : (Unit ⊕ Unit) → Tgt
 | (.inl _s) => (Ex.ret, [4], [(4, A.val (V.bool (false)))])
 | (.inr _s) => ((Ex.exit 0), [], [])
theorem Yj {a0 : List Int} {b0 : List Int} (x5 : Int) (o : Int ⊕ (Unit ⊕ Unit)) (h : Dt a0 b0 x5 = some o) : vc Try.prog Ql (Dx [5, 0, 1] (K2 a0 b0) (Qp a0 b0) o) (K2 a0 b0 x5) := by
 unfold Dt at h
 try dsimp only at h
 conv => whnf
 refine Len.map ?_
 conv => whnf
 refine Br.od h (fun p2 h => ?_) (fun p2 h => ?_)
 ·conv => whnf
  refine Len.map ?_
  conv => whnf
  refine Ask.o h fun p3 h => ?_
  conv => whnf
  refine Elem.o (by first | omega | (simp [A4] at *; omega)) ?_
  conv => whnf
  refine Len.map ?_
  conv => whnf
  refine Ask.o h fun p4 h => ?_
  conv => whnf
  refine Elem.o (by first | omega | (simp [A4] at *; omega)) ?_
  conv => whnf
  refine Br.on h (fun p5 h => ?_) (fun p5 h => ?_)
  ·conv => whnf
   cases h; exact ⟨rfl, rfl⟩
  conv => whnf
  refine Ask.o h fun p6 h => ?_
  conv => whnf
  cases h; exact ⟨rfl, rfl⟩
 conv => whnf
 cases h; exact ⟨rfl, rfl⟩
noncomputable def Id (a0 : (List Int)) (b0 : (List Int)) : Option Bool :=
 if (↑a0.length : Int) ≠ (↑b0.length : Int) then
 some false
 else
 (Ap (Dt a0 b0) (0 : Int)).bind fun t => match t with
 | (.inl _) => (some false)
 | (.inr _) => (some true)
theorem Agz {a0 : (List Int)} {b0 : (List Int)} {v : Bool} (h : Id a0 b0 = some v) : Ret Try.prog Pz [(slr false 1 Af) a0, (slr false 1 Af) b0] (V.bool v) := by
 refine A5 Afc (Nat.le_of_ble_eq_true rfl) ?_
 unfold Id at h
 conv => whnf
 refine Len.map ?_
 conv => whnf
 refine Len.map ?_
 conv => whnf
 refine Br.on h (fun p1 h => ?_) (fun p1 h => ?_)
 ·conv => whnf
  cases h; exact (by first | rfl | simp only [Ah, Aa, V.fz, fzL, V.up, upL, Ab, Ac, Ad, slr] | simp [Ah, Aa, V.fz, fzL, V.up, upL, Ab, Ac, Ad, slr])
 conv => whnf
 refine LoopQ.o [5, 0, 1] (K2 a0 b0) (Qp a0 b0) h (fun s o h => Yj s o h) (by first | rfl | simp [restrict, look, Aa, V.fz, fzL, V.up, upL, Ab, Ac, Ad, slr]) (by rintro (_ | _) <;> rfl) ?_
 rintro (⟨⟩ | ⟨⟩) h
 ·try dsimp only at h
  conv => whnf
  cases h; exact (by first | rfl | simp only [Ah, Aa, V.fz, fzL, V.up, upL, Ab, Ac, Ad, slr] | simp [Ah, Aa, V.fz, fzL, V.up, upL, Ab, Ac, Ad, slr])
 try dsimp only at h
 conv => whnf
 cases h; exact (by first | rfl | simp only [Ah, Aa, V.fz, fzL, V.up, upL, Ab, Ac, Ad, slr] | simp [Ah, Aa, V.fz, fzL, V.up, upL, Ab, Ac, Ad, slr])
noncomputable def Bt (n0 : Int) : (Int × Int) → Option ((Int × Int) ⊕ Int) := fun (x5, x1) =>
 if x1 > (0 : Int) then
 ask (InI (x5 * n0)) <|
 ask (InI (x1 - (1 : Int))) <|
 some (.inl (x5 * n0, x1 - (1 : Int)))
 else
 some (.inr x5)
def K4 (n0 : Int) : (Int × Int) → St := fun s => [(5, A.val (Af s.1)), (0, A.val (Af (n0))), (1, A.val (Af s.2))]
def Qm (_n0 : Int) : Int → Tgt
 | s => ((Ex.exit 0), [5], [(5, A.val (Af s))])
theorem Ye {n0 : Int} (s : (Int × Int)) (o : (Int × Int) ⊕ Int) (h : Bt n0 s = some o) : vc Try.prog Qo (Dx [5, 0, 1] (K4 n0) (Qm n0) o) (K4 n0 s) := by
 obtain ⟨x5, x1⟩ := s
 unfold Bt at h
 try dsimp only at h
 conv => whnf
 refine Br.od h (fun p1 h => ?_) (fun p1 h => ?_)
 ·conv => whnf
  refine Ask.o h fun p2 h => ?_
  conv => whnf
  refine Ask.o h fun p3 h => ?_
  conv => whnf
  cases h; exact ⟨rfl, rfl⟩
 conv => whnf
 cases h; exact ⟨rfl, rfl⟩
noncomputable def Cu (n0 : Int) (k0 : Int) : Option Int :=
 (Ap (Bt n0) ((1 : Int), k0)).bind fun q4_5 =>
 some q4_5
theorem Lv {n0 : Int} {k0 : Int} {v : Int} (h : Cu n0 k0 = some v) : Ret Try.prog Gv [Af n0, Af k0] (Af v) := by
 refine A5 Af7 (Nat.le_of_ble_eq_true rfl) ?_
 unfold Cu at h
 conv => whnf
 refine LoopQ.o [5, 0, 1] (K4 n0) (Qm n0) h (fun s o h => Ye s o h) (by first | rfl | simp [restrict, look, Aa, V.fz, fzL, V.up, upL, Ab, Ac, Ad, slr]) (fun _ => rfl) ?_
 rintro q4_5 h
 try dsimp only at h
 conv => whnf
 cases h; exact (by first | rfl | simp only [Ah, Aa, V.fz, fzL, V.up, upL, Ab, Ac, Ad, slr] | simp [Ah, Aa, V.fz, fzL, V.up, upL, Ab, Ac, Ad, slr])
noncomputable def Jk (n0 : Int) : (Int × (List Int) × Int) → Option ((Int × (List Int) × Int) ⊕ (List Int)) := fun (x8, x7, x0) =>
 if x8 ≥ (0 : Int) then
 ask (n0 ≠ (0 : Int)) <|
 ask ((0 : Int) ≤ x8 ∧ x8 < (↑x7.length : Int)) <|
 ask (n0 ≠ (0 : Int) ∧ InI (x0.tdiv n0)) <|
 ask (InI (x8 - (1 : Int))) <|
 some (.inl (x8 - (1 : Int), x7.set x8.toNat (x0.tmod n0), x0.tdiv n0))
 else
 some (.inr x7)
def Jn (n0 : Int) : (Int × (List Int) × Int) → St := fun s => [(8, A.val (Af s.1)), (7, A.val ((slr true 1 Af) s.2.1)), (0, A.val (Af s.2.2)), (2, A.val (Af (n0)))]
def Po (_n0 : Int) : (List Int) → Tgt
 | s => ((Ex.exit 0), [7], [(7, A.val ((slr true 1 Af) s))])
theorem Wr {n0 : Int} (s : (Int × (List Int) × Int)) (o : (Int × (List Int) × Int) ⊕ (List Int)) (h : Jk n0 s = some o) : vc Try.prog Pn (Dx [8, 7, 0, 2] (Jn n0) (Po n0) o) (Jn n0 s) := by
 obtain ⟨x8, x7, x0⟩ := s
 unfold Jk at h
 try dsimp only at h
 conv => whnf
 refine Br.od h (fun p3 h => ?_) (fun p3 h => ?_)
 ·conv => whnf
  refine Ask.o h fun p4 h => ?_
  conv => whnf
  refine Len.map ?_
  conv => whnf
  refine Ask.o h fun p5 h => ?_
  conv => whnf
  refine SetKids.one (fun _ => ⟨rfl, rfl⟩) (x0.tmod n0) (by first | rfl | simp only [Aa, V.fz, fzL, V.up, upL, Ab, Ac, Ad, slr, List.cons_append, List.nil_append] | simp [Aa, V.fz, fzL, V.up, upL, Ab, Ac, Ad, slr]) (by first | omega | (simp [A4] at *; omega)) ?_
  conv => whnf
  refine Ask.o h fun p6 h => ?_
  conv => whnf
  refine Ask.o h fun p7 h => ?_
  conv => whnf
  cases h; exact ⟨rfl, rfl⟩
 conv => whnf
 cases h; exact ⟨rfl, rfl⟩
noncomputable def Fp (i0 : Int) (k0 : Int) (n0 : Int) : Option (List Int) :=
 ask ((0 : Int) ≤ k0 ∧ k0 ≤ (↑LIM : Int)) <|
 ask (InI (k0 - (1 : Int))) <|
 (Ap (Jk n0) (k0 - (1 : Int), List.replicate k0.toNat (0 : Int), i0)).bind fun q8_7 =>
 some q8_7
theorem Ta {i0 : Int} {k0 : Int} {n0 : Int} {v : (List Int)} (h : Fp i0 k0 n0 = some v) : Ret Try.prog Jv [Af i0, Af k0, Af n0] ((slr true 1 Af) v) := by
 refine A5 Ab4 (Nat.le_of_ble_eq_true rfl) ?_
 unfold Fp at h
 conv => whnf
 refine Ask.o h fun p1 h => ?_
 conv => whnf
 refine MkQ.o Af ((0 : Int)) rfl ?_
 conv => whnf
 refine Ask.o h fun p2 h => ?_
 conv => whnf
 refine LoopQ.o [8, 7, 0, 2] (Jn n0) (Po n0) h (fun s o h => Wr s o h) (by first | rfl | simp [restrict, look, Aa, V.fz, fzL, V.up, upL, Ab, Ac, Ad, slr]) (fun _ => rfl) ?_
 rintro q8_7 h
 try dsimp only at h
 conv => whnf
 cases h; exact (by first | rfl | simp only [Ah, Aa, V.fz, fzL, V.up, upL, Ab, Ac, Ad, slr] | simp [Ah, Aa, V.fz, fzL, V.up, upL, Ab, Ac, Ad, slr])
noncomputable def Cx (args0 : List Int) (n0 : Int) : (Int × Int) → Option ((Int × Int) ⊕ Int) := fun (x10, x5) =>
 if x10 < (↑args0.length : Int) then
 ask ((0 : Int) ≤ x10 ∧ x10 < (↑args0.length : Int)) <|
 ask (InI (x5 * n0)) <|
 ask (InI (x5 * n0 + nth args0 x10.toNat)) <|
 ask (InI (x10 + (1 : Int))) <|
 some (.inl (x10 + (1 : Int), x5 * n0 + nth args0 x10.toNat))
 else
 some (.inr x5)
def Iy (args0 : List Int) (n0 : Int) : (Int × Int) → St := fun s => [(10, A.val (Af s.1)), (9, A.val (Af ((↑args0.length : Int)))), (8, A.val ((slr false 1 Af) (args0))), (5, A.val (Af s.2)), (1, A.val (Af (n0)))]
def Nk (_args0 : List Int) (_n0 : Int) : Int → Tgt
 | s => ((Ex.exit 0), [5], [(5, A.val (Af s))])
theorem V8 {args0 : List Int} {n0 : Int} (s : (Int × Int)) (o : (Int × Int) ⊕ Int) (h : Cx args0 n0 s = some o) : vc Try.prog Nd (Dx [10, 9, 8, 5, 1] (Iy args0 n0) (Nk args0 n0) o) (Iy args0 n0 s) := by
 obtain ⟨x10, x5⟩ := s
 unfold Cx at h
 try dsimp only at h
 conv => whnf
 refine Br.od h (fun p1 h => ?_) (fun p1 h => ?_)
 ·conv => whnf
  refine Len.map ?_
  conv => whnf
  refine Ask.o h fun p2 h => ?_
  conv => whnf
  refine Elem.o (by first | omega | (simp [A4] at *; omega)) ?_
  conv => whnf
  refine Ask.o h fun p3 h => ?_
  conv => whnf
  refine Ask.o h fun p4 h => ?_
  conv => whnf
  refine Ask.o h fun p5 h => ?_
  conv => whnf
  cases h; exact ⟨rfl, rfl⟩
 conv => whnf
 cases h; exact ⟨rfl, rfl⟩
noncomputable def Ey (args0 : (List Int)) (n0 : Int) : Option Int :=
 (Ap (Cx args0 n0) ((0 : Int), (0 : Int))).bind fun q6_5 =>
 some q6_5
theorem Abg {args0 : (List Int)} {n0 : Int} {v : Int} (h : Ey args0 n0 = some v) : Ret Try.prog Ma [(slr false 1 Af) args0, Af n0] (Af v) := by
 refine A5 Aal (Nat.le_of_ble_eq_true rfl) ?_
 unfold Ey at h
 conv => whnf
 refine Len.map ?_
 conv => whnf
 refine LoopQ.o [10, 9, 8, 5, 1] (Iy args0 n0) (Nk args0 n0) h (fun s o h => V8 s o h) (by first | rfl | simp [restrict, look, Aa, V.fz, fzL, V.up, upL, Ab, Ac, Ad, slr]) (fun _ => rfl) ?_
 rintro q6_5 h
 try dsimp only at h
 conv => whnf
 cases h; exact (by first | rfl | simp only [Ah, Aa, V.fz, fzL, V.up, upL, Ab, Ac, Ad, slr] | simp [Ah, Aa, V.fz, fzL, V.up, upL, Ab, Ac, Ad, slr])
noncomputable def D1 (x0 : Int) (a0 : Int) (b0 : Int) : Option Bool :=
 if x0 ≥ a0 then
 some (decide (x0 ≤ b0))
 else
 some false
theorem H5 {x0 : Int} {a0 : Int} {b0 : Int} {v : Bool} (h : D1 x0 a0 b0 = some v) : Ret Try.prog E6 [Af x0, Af a0, Af b0] (V.bool v) := by
 refine A5 Ah0 (Nat.le_of_ble_eq_true rfl) ?_
 unfold D1 at h
 conv => whnf
 refine Br.od h (fun p1 h => ?_) (fun p1 h => ?_)
 ·conv => whnf
  refine Br.yes ?_
  conv => whnf
  refine Br.yes ?_
  conv => whnf
  refine Br.yes ?_
  conv => whnf
  cases h; exact (by first | rfl | simp only [Ah, Aa, V.fz, fzL, V.up, upL, Ab, Ac, Ad, slr] | simp [Ah, Aa, V.fz, fzL, V.up, upL, Ab, Ac, Ad, slr])
 conv => whnf
 refine Br.no ?_
 conv => whnf
 refine Br.no ?_
 conv => whnf
 refine Br.no ?_
 conv => whnf
 cases h; exact (by first | rfl | simp only [Ah, Aa, V.fz, fzL, V.up, upL, Ab, Ac, Ad, slr] | simp [Ah, Aa, V.fz, fzL, V.up, upL, Ab, Ac, Ad, slr])
noncomputable def Fo (n0 : Int) : Option Bool :=
 if n0 ≥ (1 : Int) then
 some (decide (n0 ≤ (8 : Int)))
 else
 some false
theorem Tj {n0 : Int} {v : Bool} (h : Fo n0 = some v) : Ret Try.prog Ju [Af n0] (V.bool v) := by
 refine A5 Acf (Nat.le_of_ble_eq_true rfl) ?_
 unfold Fo at h
 conv => whnf
 refine Br.od h (fun p1 h => ?_) (fun p1 h => ?_)
 ·conv => whnf
  refine Br.yes ?_
  conv => whnf
  refine Br.yes ?_
  conv => whnf
  cases h; exact (by first | rfl | simp only [Ah, Aa, V.fz, fzL, V.up, upL, Ab, Ac, Ad, slr] | simp [Ah, Aa, V.fz, fzL, V.up, upL, Ab, Ac, Ad, slr])
 conv => whnf
 refine Br.no ?_
 conv => whnf
 refine Br.no ?_
 conv => whnf
 cases h; exact (by first | rfl | simp only [Ah, Aa, V.fz, fzL, V.up, upL, Ab, Ac, Ad, slr] | simp [Ah, Aa, V.fz, fzL, V.up, upL, Ab, Ac, Ad, slr])
noncomputable def C7 (n0 : Int) : (Int × (List Int) × Int) → Option ((Int × (List Int) × Int) ⊕ (List Int)) := fun (x8, x7, x2) =>
 if x8 ≥ (0 : Int) then
 ask (n0 ≠ (0 : Int)) <|
 ask ((0 : Int) ≤ x8 ∧ x8 < (↑x7.length : Int)) <|
 ask (n0 ≠ (0 : Int) ∧ InI (x2.tdiv n0)) <|
 ask (InI (x8 - (1 : Int))) <|
 some (.inl (x8 - (1 : Int), x7.set x8.toNat (x2.tmod n0), x2.tdiv n0))
 else
 some (.inr x7)
def Jh (n0 : Int) : (Int × (List Int) × Int) → St := fun s => [(8, A.val (Af s.1)), (7, A.val ((slr true 1 Af) s.2.1)), (0, A.val (Af (n0))), (2, A.val (Af s.2.2))]
def Pb (_n0 : Int) : (List Int) → Tgt
 | s => ((Ex.exit 0), [7], [(7, A.val ((slr true 1 Af) s))])
theorem Xh {n0 : Int} (s : (Int × (List Int) × Int)) (o : (Int × (List Int) × Int) ⊕ (List Int)) (h : C7 n0 s = some o) : vc Try.prog Pj (Dx [8, 7, 0, 2] (Jh n0) (Pb n0) o) (Jh n0 s) := by
 obtain ⟨x8, x7, x2⟩ := s
 unfold C7 at h
 try dsimp only at h
 conv => whnf
 refine Br.od h (fun p3 h => ?_) (fun p3 h => ?_)
 ·conv => whnf
  refine Ask.o h fun p4 h => ?_
  conv => whnf
  refine Len.map ?_
  conv => whnf
  refine Ask.o h fun p5 h => ?_
  conv => whnf
  refine SetKids.one (fun _ => ⟨rfl, rfl⟩) (x2.tmod n0) (by first | rfl | simp only [Aa, V.fz, fzL, V.up, upL, Ab, Ac, Ad, slr, List.cons_append, List.nil_append] | simp [Aa, V.fz, fzL, V.up, upL, Ab, Ac, Ad, slr]) (by first | omega | (simp [A4] at *; omega)) ?_
  conv => whnf
  refine Ask.o h fun p6 h => ?_
  conv => whnf
  refine Ask.o h fun p7 h => ?_
  conv => whnf
  cases h; exact ⟨rfl, rfl⟩
 conv => whnf
 cases h; exact ⟨rfl, rfl⟩
noncomputable def B8 (n0 : Int) (arity0 : Int) (at0 : Int) : Option (List Int) :=
 ask ((0 : Int) ≤ arity0 ∧ arity0 ≤ (↑LIM : Int)) <|
 ask (InI (arity0 - (1 : Int))) <|
 (Ap (C7 n0) (arity0 - (1 : Int), List.replicate arity0.toNat (0 : Int), at0)).bind fun q8_7 =>
 some q8_7
theorem Jt {n0 : Int} {arity0 : Int} {at0 : Int} {v : (List Int)} (h : B8 n0 arity0 at0 = some v) : Ret Try.prog Fq [Af n0, Af arity0, Af at0] ((slr true 1 Af) v) := by
 refine A5 Acl (Nat.le_of_ble_eq_true rfl) ?_
 unfold B8 at h
 conv => whnf
 refine Ask.o h fun p1 h => ?_
 conv => whnf
 refine MkQ.o Af ((0 : Int)) rfl ?_
 conv => whnf
 refine Ask.o h fun p2 h => ?_
 conv => whnf
 refine LoopQ.o [8, 7, 0, 2] (Jh n0) (Pb n0) h (fun s o h => Xh s o h) (by first | rfl | simp [restrict, look, Aa, V.fz, fzL, V.up, upL, Ab, Ac, Ad, slr]) (fun _ => rfl) ?_
 rintro q8_7 h
 try dsimp only at h
 conv => whnf
 cases h; exact (by first | rfl | simp only [Ah, Aa, V.fz, fzL, V.up, upL, Ab, Ac, Ad, slr] | simp [Ah, Aa, V.fz, fzL, V.up, upL, Ab, Ac, Ad, slr])
noncomputable def Dw (list0 : List Int) : (Int × (List Int)) → Option ((Int × (List Int)) ⊕ (List Int)) := fun (x12, x3) =>
 if x12 < (↑list0.length : Int) then
 ask ((0 : Int) ≤ x12 ∧ x12 < (↑list0.length : Int)) <|
 ask ((x3).length + ([IntKind.u8.wrap ((nth list0 x12.toNat).fdiv ((2 : Int) ^ min (Int.toNat (8 : Int)) IntKind.i64.bits)), IntKind.u8.wrap (nth list0 x12.toNat)]).length ≤ LIM) <|
 ask (InI (x12 + (1 : Int))) <|
 some (.inl (x12 + (1 : Int), x3 ++ [IntKind.u8.wrap ((nth list0 x12.toNat).fdiv ((2 : Int) ^ min (Int.toNat (8 : Int)) IntKind.i64.bits)), IntKind.u8.wrap (nth list0 x12.toNat)]))
 else
 some (.inr x3)
def Lh (list0 : List Int) : (Int × (List Int)) → St := fun s => [(12, A.val (Af s.1)), (11, A.val (Af ((↑list0.length : Int)))), (10, A.val ((slr false 1 Af) (list0))), (3, A.val ((slr true 1 (V.int IntKind.u8)) s.2))]
def Qt (_list0 : List Int) : (List Int) → Tgt
 | s => ((Ex.exit 0), [3], [(3, A.val ((slr true 1 (V.int IntKind.u8)) s))])
theorem Yd {list0 : List Int} (s : (Int × (List Int))) (o : (Int × (List Int)) ⊕ (List Int)) (h : Dw list0 s = some o) : vc Try.prog Qs (Dx [12, 11, 10, 3] (Lh list0) (Qt list0) o) (Lh list0 s) := by
 obtain ⟨x12, x3⟩ := s
 unfold Dw at h
 try dsimp only at h
 conv => whnf
 refine Br.od h (fun p3 h => ?_) (fun p3 h => ?_)
 ·conv => whnf
  refine Len.map ?_
  conv => whnf
  refine Ask.o h fun p4 h => ?_
  conv => whnf
  refine Elem.o (by first | omega | (simp [A4] at *; omega)) ?_
  conv => whnf
  refine BslQ.o (V.int IntKind.u8) ([IntKind.u8.wrap ((nth list0 x12.toNat).fdiv ((2 : Int) ^ min (Int.toNat (8 : Int)) IntKind.i64.bits)), IntKind.u8.wrap (nth list0 x12.toNat)]) (by exact fun _ => ⟨rfl, rfl⟩) (by first | rfl | simp only [Aa, V.fz, fzL, V.up, upL, Ab, Ac, Ad, slr, List.cons_append, List.nil_append] | simp [Aa, V.fz, fzL, V.up, upL, Ab, Ac, Ad, slr]) ?_
  conv => whnf
  refine NoOwn.o (fun _ => rfl) ?_
  conv => whnf
  refine AppQ.o (m := 1) (V.int IntKind.u8) (by exact fun _ => ⟨rfl, rfl⟩) (x3) ([IntKind.u8.wrap ((nth list0 x12.toNat).fdiv ((2 : Int) ^ min (Int.toNat (8 : Int)) IntKind.i64.bits)), IntKind.u8.wrap (nth list0 x12.toNat)]) (by first | rfl | simp only [Aa, V.fz, fzL, V.up, upL, Ab, Ac, Ad, slr, List.cons_append, List.nil_append] | simp [Aa, V.fz, fzL, V.up, upL, Ab, Ac, Ad, slr]) (by first | rfl | simp only [Aa, V.fz, fzL, V.up, upL, Ab, Ac, Ad, slr, List.cons_append, List.nil_append] | simp [Aa, V.fz, fzL, V.up, upL, Ab, Ac, Ad, slr]) h fun h => ?_
  conv => whnf
  refine Ask.o h fun p5 h => ?_
  conv => whnf
  cases h; exact ⟨rfl, rfl⟩
 conv => whnf
 cases h; exact ⟨rfl, rfl⟩
noncomputable def Gw (list0 : (List Int)) : Option ByteArray :=
 ask (InI ((2 : Int) * (↑list0.length : Int))) <|
 ask ((0 : Int) ≤ (2 : Int) * (↑list0.length : Int) ∧ (2 : Int) * (↑list0.length : Int) ≤ (↑LIM : Int)) <|
 (Ap (Dw list0) ((0 : Int), Bl Int)).bind fun q6_3 =>
 some (Qr q6_3)
theorem U3 {list0 : (List Int)} {v : ByteArray} (h : Gw list0 = some v) : Ret Try.prog Lz [(slr false 1 Af) list0] (V.str v) := by
 refine A5 Afe (Nat.le_of_ble_eq_true rfl) ?_
 unfold Gw at h
 conv => whnf
 refine Len.map ?_
 conv => whnf
 refine Ask.o h fun p1 h => ?_
 conv => whnf
 refine Ask.o h fun p2 h => ?_
 conv => whnf
 refine Len.map ?_
 conv => whnf
 refine LoopQ.o [12, 11, 10, 3] (Lh list0) (Qt list0) h (fun s o h => Yd s o h) (by first | rfl | simp [restrict, look, Aa, V.fz, fzL, V.up, upL, Ab, Ac, Ad, slr]) (fun _ => rfl) ?_
 rintro q6_3 h
 try dsimp only at h
 conv => whnf
 refine BsQ.o q6_3 (by first | rfl | simp only [Aa, V.fz, fzL, V.up, upL, Ab, Ac, Ad, slr, List.cons_append, List.nil_append] | simp [Aa, V.fz, fzL, V.up, upL, Ab, Ac, Ad, slr]) ?_
 conv => whnf
 cases h; exact (by first | rfl | simp only [Ah, Aa, V.fz, fzL, V.up, upL, Ab, Ac, Ad, slr] | simp [Ah, Aa, V.fz, fzL, V.up, upL, Ab, Ac, Ad, slr])
noncomputable def Cb (a0 : List Int) (b0 : List Int) : Int → Option (Int ⊕ (Unit ⊕ Unit)) := fun x14 =>
 if x14 < (↑a0.length : Int) then
 ask ((0 : Int) ≤ x14 ∧ x14 < (↑a0.length : Int)) <|
 ask ((0 : Int) ≤ x14 ∧ x14 < (↑b0.length : Int)) <|
 if nth b0 x14.toNat ≠ nth a0 x14.toNat then
 some (.inr (.inl ()))
 else
 ask (InI (x14 + (1 : Int))) <|
 some (.inl (x14 + (1 : Int)))
 else
 some (.inr (.inr ()))
def Hp (a0 : List Int) (b0 : List Int) : Int → St := fun s => [(14, A.val (Af s)), (13, A.val (Af ((↑a0.length : Int)))), (12, A.val ((slr false 1 Af) (a0))), (1, A.val ((slr false 1 Af) (b0)))]
def Mi (_a0 : List Int) (_b0 : List Int) : (Unit ⊕ Unit) → Tgt
 | (.inl _s) => (Ex.ret, [4], [(4, A.val (V.bool (false)))])
 | (.inr _s) => ((Ex.exit 0), [], [])
theorem T9 {a0 : List Int} {b0 : List Int} (x14 : Int) (o : Int ⊕ (Unit ⊕ Unit)) (h : Cb a0 b0 x14 = some o) : vc Try.prog Me (Dx [14, 13, 12, 1] (Hp a0 b0) (Mi a0 b0) o) (Hp a0 b0 x14) := by
 unfold Cb at h
 try dsimp only at h
 conv => whnf
 refine Br.od h (fun p2 h => ?_) (fun p2 h => ?_)
 ·conv => whnf
  refine Len.map ?_
  conv => whnf
  refine Ask.o h fun p3 h => ?_
  conv => whnf
  refine Elem.o (by first | omega | (simp [A4] at *; omega)) ?_
  conv => whnf
  refine Len.map ?_
  conv => whnf
  refine Ask.o h fun p4 h => ?_
  conv => whnf
  refine Elem.o (by first | omega | (simp [A4] at *; omega)) ?_
  conv => whnf
  refine Br.on h (fun p5 h => ?_) (fun p5 h => ?_)
  ·conv => whnf
   cases h; exact ⟨rfl, rfl⟩
  conv => whnf
  refine Ask.o h fun p6 h => ?_
  conv => whnf
  cases h; exact ⟨rfl, rfl⟩
 conv => whnf
 cases h; exact ⟨rfl, rfl⟩
noncomputable def Fj (a0 : (List Int)) (b0 : (List Int)) : Option Bool :=
 if (↑a0.length : Int) ≠ (↑b0.length : Int) then
 some false
 else
 (Ap (Cb a0 b0) (0 : Int)).bind fun t => match t with
 | (.inl _) => (some false)
 | (.inr _) => (some true)
theorem Yu {a0 : (List Int)} {b0 : (List Int)} {v : Bool} (h : Fj a0 b0 = some v) : Ret Try.prog K5 [(slr false 1 Af) a0, (slr false 1 Af) b0] (V.bool v) := by
 refine A5 Yt (Nat.le_of_ble_eq_true rfl) ?_
 unfold Fj at h
 conv => whnf
 refine Len.map ?_
 conv => whnf
 refine Len.map ?_
 conv => whnf
 refine Br.on h (fun p1 h => ?_) (fun p1 h => ?_)
 ·conv => whnf
  cases h; exact (by first | rfl | simp only [Ah, Aa, V.fz, fzL, V.up, upL, Ab, Ac, Ad, slr] | simp [Ah, Aa, V.fz, fzL, V.up, upL, Ab, Ac, Ad, slr])
 conv => whnf
 refine Len.map ?_
 conv => whnf
 refine LoopQ.o [14, 13, 12, 1] (Hp a0 b0) (Mi a0 b0) h (fun s o h => T9 s o h) (by first | rfl | simp [restrict, look, Aa, V.fz, fzL, V.up, upL, Ab, Ac, Ad, slr]) (by rintro (_ | _) <;> rfl) ?_
 rintro (⟨⟩ | ⟨⟩) h
 ·try dsimp only at h
  conv => whnf
  cases h; exact (by first | rfl | simp only [Ah, Aa, V.fz, fzL, V.up, upL, Ab, Ac, Ad, slr] | simp [Ah, Aa, V.fz, fzL, V.up, upL, Ab, Ac, Ad, slr])
 try dsimp only at h
 conv => whnf
 cases h; exact (by first | rfl | simp only [Ah, Aa, V.fz, fzL, V.up, upL, Ab, Ac, Ad, slr] | simp [Ah, Aa, V.fz, fzL, V.up, upL, Ab, Ac, Ad, slr])
noncomputable def Hf (a0 : Int) (b0 : Int) : Option Int :=
 if a0 > b0 then
 some a0
 else
 some b0
theorem Ab7 {a0 : Int} {b0 : Int} {v : Int} (h : Hf a0 b0 = some v) : Ret Try.prog N7 [Af a0, Af b0] (Af v) := by
 refine A5 Acq (Nat.le_of_ble_eq_true rfl) ?_
 unfold Hf at h
 conv => whnf
 refine Br.od h (fun p1 h => ?_) (fun p1 h => ?_)
 ·conv => whnf
  cases h; exact (by first | rfl | simp only [Ah, Aa, V.fz, fzL, V.up, upL, Ab, Ac, Ad, slr] | simp [Ah, Aa, V.fz, fzL, V.up, upL, Ab, Ac, Ad, slr])
 conv => whnf
 cases h; exact (by first | rfl | simp only [Ah, Aa, V.fz, fzL, V.up, upL, Ab, Ac, Ad, slr] | simp [Ah, Aa, V.fz, fzL, V.up, upL, Ab, Ac, Ad, slr])
noncomputable def C9 (list0 : List Int) (n0 : Int) : Int → Option (Int ⊕ (Unit ⊕ Unit)) := fun x9 =>
 if x9 < (↑list0.length : Int) then
 ask ((0 : Int) ≤ x9 ∧ x9 < (↑list0.length : Int)) <|
 if nth list0 x9.toNat < (0 : Int) then
 some (.inr (.inl ()))
 else
 if nth list0 x9.toNat ≥ n0 then
 some (.inr (.inl ()))
 else
 ask (InI (x9 + (1 : Int))) <|
 some (.inl (x9 + (1 : Int)))
 else
 some (.inr (.inr ()))
def Ja (list0 : List Int) (n0 : Int) : Int → St := fun s => [(9, A.val (Af s)), (8, A.val (Af ((↑list0.length : Int)))), (7, A.val ((slr false 1 Af) (list0))), (1, A.val (Af (n0)))]
def O4 (_list0 : List Int) (_n0 : Int) : (Unit ⊕ Unit) → Tgt
 | (.inl _s) => (Ex.ret, [4], [(4, A.val (V.bool (false)))])
 | (.inr _s) => ((Ex.exit 0), [], [])
theorem Wi {list0 : List Int} {n0 : Int} (x9 : Int) (o : Int ⊕ (Unit ⊕ Unit)) (h : C9 list0 n0 x9 = some o) : vc Try.prog Pf (Dx [9, 8, 7, 1] (Ja list0 n0) (O4 list0 n0) o) (Ja list0 n0 x9) := by
 unfold C9 at h
 try dsimp only at h
 conv => whnf
 refine Br.od h (fun p1 h => ?_) (fun p1 h => ?_)
 ·conv => whnf
  refine Len.map ?_
  conv => whnf
  refine Ask.o h fun p2 h => ?_
  conv => whnf
  refine Elem.o (by first | omega | (simp [A4] at *; omega)) ?_
  conv => whnf
  refine Br.od h (fun p3 h => ?_) (fun p3 h => ?_)
  ·conv => whnf
   refine Br.yes ?_
   conv => whnf
   refine Br.yes ?_
   conv => whnf
   refine Br.yes ?_
   conv => whnf
   refine Br.yes ?_
   conv => whnf
   cases h; exact ⟨rfl, rfl⟩
  conv => whnf
  refine Br.no ?_
  conv => whnf
  refine Br.no ?_
  conv => whnf
  refine Br.no ?_
  conv => whnf
  refine Br.od h (fun p4 h => ?_) (fun p4 h => ?_)
  ·conv => whnf
   cases h; exact ⟨rfl, rfl⟩
  conv => whnf
  refine Ask.o h fun p5 h => ?_
  conv => whnf
  cases h; exact ⟨rfl, rfl⟩
 conv => whnf
 cases h; exact ⟨rfl, rfl⟩
noncomputable def Es (list0 : (List Int)) (n0 : Int) : Option Bool :=
 (Ap (C9 list0 n0) (0 : Int)).bind fun t => match t with
 | (.inl _) => (some false)
 | (.inr _) => (some true)
theorem Ob {list0 : (List Int)} {n0 : Int} {v : Bool} (h : Es list0 n0 = some v) : Ret Try.prog Hd [(slr false 1 Af) list0, Af n0] (V.bool v) := by
 refine A5 Acm (Nat.le_of_ble_eq_true rfl) ?_
 unfold Es at h
 conv => whnf
 refine Len.map ?_
 conv => whnf
 refine LoopQ.o [9, 8, 7, 1] (Ja list0 n0) (O4 list0 n0) h (fun s o h => Wi s o h) (by first | rfl | simp [restrict, look, Aa, V.fz, fzL, V.up, upL, Ab, Ac, Ad, slr]) (by rintro (_ | _) <;> rfl) ?_
 rintro (⟨⟩ | ⟨⟩) h
 ·try dsimp only at h
  conv => whnf
  cases h; exact (by first | rfl | simp only [Ah, Aa, V.fz, fzL, V.up, upL, Ab, Ac, Ad, slr] | simp [Ah, Aa, V.fz, fzL, V.up, upL, Ab, Ac, Ad, slr])
 try dsimp only at h
 conv => whnf
 cases h; exact (by first | rfl | simp only [Ah, Aa, V.fz, fzL, V.up, upL, Ab, Ac, Ad, slr] | simp [Ah, Aa, V.fz, fzL, V.up, upL, Ab, Ac, Ad, slr])
noncomputable def Bu (n0 : Int) : (Int × Int) → Option ((Int × Int) ⊕ Int) := fun (x5, x1) =>
 if x1 > (0 : Int) then
 ask (InI (x5 * n0)) <|
 ask (InI (x1 - (1 : Int))) <|
 some (.inl (x5 * n0, x1 - (1 : Int)))
 else
 some (.inr x5)
def K9 (n0 : Int) : (Int × Int) → St := fun s => [(5, A.val (Af s.1)), (0, A.val (Af (n0))), (1, A.val (Af s.2))]
def Qk (_n0 : Int) : Int → Tgt
 | s => ((Ex.exit 0), [5], [(5, A.val (Af s))])
theorem X9 {n0 : Int} (s : (Int × Int)) (o : (Int × Int) ⊕ Int) (h : Bu n0 s = some o) : vc Try.prog Qq (Dx [5, 0, 1] (K9 n0) (Qk n0) o) (K9 n0 s) := by
 obtain ⟨x5, x1⟩ := s
 unfold Bu at h
 try dsimp only at h
 conv => whnf
 refine Br.od h (fun p1 h => ?_) (fun p1 h => ?_)
 ·conv => whnf
  refine Ask.o h fun p2 h => ?_
  conv => whnf
  refine Ask.o h fun p3 h => ?_
  conv => whnf
  cases h; exact ⟨rfl, rfl⟩
 conv => whnf
 cases h; exact ⟨rfl, rfl⟩
noncomputable def B9 (n0 : Int) (k0 : Int) : Option Int :=
 (Ap (Bu n0) ((1 : Int), k0)).bind fun q4_5 =>
 some q4_5
theorem It {n0 : Int} {k0 : Int} {v : Int} (h : B9 n0 k0 = some v) : Ret Try.prog Fc [Af n0, Af k0] (Af v) := by
 refine A5 Agk (Nat.le_of_ble_eq_true rfl) ?_
 unfold B9 at h
 conv => whnf
 refine LoopQ.o [5, 0, 1] (K9 n0) (Qk n0) h (fun s o h => X9 s o h) (by first | rfl | simp [restrict, look, Aa, V.fz, fzL, V.up, upL, Ab, Ac, Ad, slr]) (fun _ => rfl) ?_
 rintro q4_5 h
 try dsimp only at h
 conv => whnf
 cases h; exact (by first | rfl | simp only [Ah, Aa, V.fz, fzL, V.up, upL, Ab, Ac, Ad, slr] | simp [Ah, Aa, V.fz, fzL, V.up, upL, Ab, Ac, Ad, slr])
noncomputable def Dc (a0 : List Int) (b0 : List Int) : Int → Option (Int ⊕ (Unit ⊕ Unit)) := fun x5 =>
 if x5 < (↑a0.length : Int) then
 ask ((0 : Int) ≤ x5 ∧ x5 < (↑a0.length : Int)) <|
 ask ((0 : Int) ≤ x5 ∧ x5 < (↑b0.length : Int)) <|
 if nth a0 x5.toNat ≠ nth b0 x5.toNat then
 some (.inr (.inl ()))
 else
 ask (InI (x5 + (1 : Int))) <|
 some (.inl (x5 + (1 : Int)))
 else
 some (.inr (.inr ()))
def Jm (a0 : List Int) (b0 : List Int) : Int → St := fun s => [(5, A.val (Af s)), (0, A.val ((slr false 1 Af) (a0))), (1, A.val ((slr false 1 Af) (b0)))]
def O9 (_a0 : List Int) (_b0 : List Int) : (Unit ⊕ Unit) → Tgt
 | (.inl _s) => (Ex.ret, [4], [(4, A.val (V.bool (false)))])
 | (.inr _s) => ((Ex.exit 0), [], [])
theorem Xe {a0 : List Int} {b0 : List Int} (x5 : Int) (o : Int ⊕ (Unit ⊕ Unit)) (h : Dc a0 b0 x5 = some o) : vc Try.prog Ou (Dx [5, 0, 1] (Jm a0 b0) (O9 a0 b0) o) (Jm a0 b0 x5) := by
 unfold Dc at h
 try dsimp only at h
 conv => whnf
 refine Len.map ?_
 conv => whnf
 refine Br.od h (fun p2 h => ?_) (fun p2 h => ?_)
 ·conv => whnf
  refine Len.map ?_
  conv => whnf
  refine Ask.o h fun p3 h => ?_
  conv => whnf
  refine Elem.o (by first | omega | (simp [A4] at *; omega)) ?_
  conv => whnf
  refine Len.map ?_
  conv => whnf
  refine Ask.o h fun p4 h => ?_
  conv => whnf
  refine Elem.o (by first | omega | (simp [A4] at *; omega)) ?_
  conv => whnf
  refine Br.on h (fun p5 h => ?_) (fun p5 h => ?_)
  ·conv => whnf
   cases h; exact ⟨rfl, rfl⟩
  conv => whnf
  refine Ask.o h fun p6 h => ?_
  conv => whnf
  cases h; exact ⟨rfl, rfl⟩
 conv => whnf
 cases h; exact ⟨rfl, rfl⟩
noncomputable def Hc (a0 : (List Int)) (b0 : (List Int)) : Option Bool :=
 if (↑a0.length : Int) ≠ (↑b0.length : Int) then
 some false
 else
 (Ap (Dc a0 b0) (0 : Int)).bind fun t => match t with
 | (.inl _) => (some false)
 | (.inr _) => (some true)
theorem Adi {a0 : (List Int)} {b0 : (List Int)} {v : Bool} (h : Hc a0 b0 = some v) : Ret Try.prog Oi [(slr false 1 Af) a0, (slr false 1 Af) b0] (V.bool v) := by
 refine A5 Ach (Nat.le_of_ble_eq_true rfl) ?_
 unfold Hc at h
 conv => whnf
 refine Len.map ?_
 conv => whnf
 refine Len.map ?_
 conv => whnf
 refine Br.on h (fun p1 h => ?_) (fun p1 h => ?_)
 ·conv => whnf
  cases h; exact (by first | rfl | simp only [Ah, Aa, V.fz, fzL, V.up, upL, Ab, Ac, Ad, slr] | simp [Ah, Aa, V.fz, fzL, V.up, upL, Ab, Ac, Ad, slr])
 conv => whnf
 refine LoopQ.o [5, 0, 1] (Jm a0 b0) (O9 a0 b0) h (fun s o h => Xe s o h) (by first | rfl | simp [restrict, look, Aa, V.fz, fzL, V.up, upL, Ab, Ac, Ad, slr]) (by rintro (_ | _) <;> rfl) ?_
 rintro (⟨⟩ | ⟨⟩) h
 ·try dsimp only at h
  conv => whnf
  cases h; exact (by first | rfl | simp only [Ah, Aa, V.fz, fzL, V.up, upL, Ab, Ac, Ad, slr] | simp [Ah, Aa, V.fz, fzL, V.up, upL, Ab, Ac, Ad, slr])
 try dsimp only at h
 conv => whnf
 cases h; exact (by first | rfl | simp only [Ah, Aa, V.fz, fzL, V.up, upL, Ab, Ac, Ad, slr] | simp [Ah, Aa, V.fz, fzL, V.up, upL, Ab, Ac, Ad, slr])
noncomputable def Gh (a0 : Int) (b0 : Int) : Option Int :=
 if a0 < b0 then
 some a0
 else
 some b0
theorem Abj {a0 : Int} {b0 : Int} {v : Int} (h : Gh a0 b0 = some v) : Ret Try.prog Ml [Af a0, Af b0] (Af v) := by
 refine A5 Z2 (Nat.le_of_ble_eq_true rfl) ?_
 unfold Gh at h
 conv => whnf
 refine Br.od h (fun p1 h => ?_) (fun p1 h => ?_)
 ·conv => whnf
  cases h; exact (by first | rfl | simp only [Ah, Aa, V.fz, fzL, V.up, upL, Ab, Ac, Ad, slr] | simp [Ah, Aa, V.fz, fzL, V.up, upL, Ab, Ac, Ad, slr])
 conv => whnf
 cases h; exact (by first | rfl | simp only [Ah, Aa, V.fz, fzL, V.up, upL, Ab, Ac, Ad, slr] | simp [Ah, Aa, V.fz, fzL, V.up, upL, Ab, Ac, Ad, slr])
noncomputable def Dk (c0 : Sl1Cur) : Option (Int × Sl1Cur) :=
 ((if c0.at_ < (↑c0.code.length : Int) then
 ask ((0 : Int) ≤ c0.at_ ∧ c0.at_ < (↑c0.code.length : Int)) <|
 some (IntKind.i64.wrap (nth c0.code c0.at_.toNat))
 else
 some (0 : Int) : Option Int)).bind fun q3_3 =>
 ask (InI (c0.at_ + (1 : Int))) <|
 if c0.at_ + (1 : Int) ≤ (↑c0.code.length : Int) then
 some (q3_3, { code := c0.code, at_ := c0.at_ + (1 : Int), seed := IntKind.u64.wrap (IntKind.u64.wrap (IntKind.u64.wrap (c0.seed * (6364136223846793005 : Int)) + IntKind.u64.wrap q3_3) + (550289 : Int)) })
 else
 some (IntKind.i64.wrap (IntKind.u64.wrap (↑(BitVec.ofInt IntKind.u64.bits ((IntKind.u64.wrap (IntKind.u64.wrap (IntKind.u64.wrap (c0.seed * (6364136223846793005 : Int)) + IntKind.u64.wrap q3_3) + (550289 : Int))).fdiv ((2 : Int) ^ min (Int.toNat (40 : Int)) IntKind.u64.bits)) &&& BitVec.ofInt IntKind.u64.bits (255 : Int)).toNat : Int)), { code := c0.code, at_ := c0.at_ + (1 : Int), seed := IntKind.u64.wrap (IntKind.u64.wrap (IntKind.u64.wrap (c0.seed * (6364136223846793005 : Int)) + IntKind.u64.wrap q3_3) + (550289 : Int)) })
theorem Nq {c0 : Sl1Cur} {v : (Int × Sl1Cur)} (h : Dk c0 = some v) : Aap Try.prog Ft [(rP true (Ak false)) c0] (Af v.1) 0 ((rP true (Ak false)) v.2) := by
 refine Sp Vj (Nat.le_of_ble_eq_true rfl) ?_
 unfold Dk at h
 conv => whnf
 refine CutQ.o (fun t : Int => match t with | s => (Ex.normal, [3, 0, 62], [(3, A.val (Af s)), (0, A.ref 62 []), (62, A.val ((rP true (Ak false)) (c0)))])) h ?_ ?_
 ·intro t h
  conv => whnf
  refine Cells.lit rfl rfl ?_
  conv => whnf
  refine Cells.lit rfl rfl ?_
  conv => whnf
  refine Len.map ?_
  conv => whnf
  refine Br.od h (fun p1 h => ?_) (fun p1 h => ?_)
  ·conv => whnf
   refine Cells.lit rfl rfl ?_
   conv => whnf
   refine Cells.lit rfl rfl ?_
   conv => whnf
   refine Len.map ?_
   conv => whnf
   refine Ask.o h fun p2 h => ?_
   conv => whnf
   refine Elem.o (by first | omega | (simp [A4] at *; omega)) ?_
   conv => whnf
   cases h; exact ⟨rfl, rfl⟩
  conv => whnf
  cases h; exact ⟨rfl, rfl⟩
 rintro q3_3 h
 try dsimp only at h
 conv => whnf
 refine Cells.lit rfl rfl ?_
 conv => whnf
 refine Ask.o h fun p4 h => ?_
 conv => whnf
 refine SetKids.lit rfl ?_
 conv => whnf
 refine Cells.lit rfl rfl ?_
 conv => whnf
 refine SetKids.lit rfl ?_
 conv => whnf
 refine Cells.lit rfl rfl ?_
 conv => whnf
 refine Cells.lit rfl rfl ?_
 conv => whnf
 refine Len.map ?_
 conv => whnf
 refine Br.od h (fun p5 h => ?_) (fun p5 h => ?_)
 ·conv => whnf
  cases h; exact ⟨(by first | rfl | simp only [Ah, Aa, V.fz, fzL, V.up, upL, Ab, Ac, Ad, slr] | simp [Ah, Aa, V.fz, fzL, V.up, upL, Ab, Ac, Ad, slr]), (by first | rfl | simp only [Ah, Aa, V.fz, fzL, V.up, upL, Ab, Ac, Ad, slr] | simp [Ah, Aa, V.fz, fzL, V.up, upL, Ab, Ac, Ad, slr])⟩
 conv => whnf
 refine Cells.lit rfl rfl ?_
 conv => whnf
 cases h; exact ⟨(by first | rfl | simp only [Ah, Aa, V.fz, fzL, V.up, upL, Ab, Ac, Ad, slr] | simp [Ah, Aa, V.fz, fzL, V.up, upL, Ab, Ac, Ad, slr]), (by first | rfl | simp only [Ah, Aa, V.fz, fzL, V.up, upL, Ab, Ac, Ad, slr] | simp [Ah, Aa, V.fz, fzL, V.up, upL, Ab, Ac, Ad, slr])⟩
noncomputable def Ie (l0 : (List Int)) : Option (List Int) :=
 ask ((Bl Int).length + (l0).length ≤ LIM) <|
 some (Bl Int ++ l0)
theorem Afx {l0 : (List Int)} {v : (List Int)} (h : Ie l0 = some v) : Ret Try.prog P2 [(slr false 1 Af) l0] ((slr true 1 Af) v) := by
 refine A5 Agl (Nat.le_of_ble_eq_true rfl) ?_
 unfold Ie at h
 conv => whnf
 refine BslQ.o Af (Bl Int) (by exact fun _ => ⟨rfl, rfl⟩) (by first | rfl | simp only [Aa, V.fz, fzL, V.up, upL, Ab, Ac, Ad, slr, List.cons_append, List.nil_append] | simp [Aa, V.fz, fzL, V.up, upL, Ab, Ac, Ad, slr]) ?_
 conv => whnf
 refine AppQ.o (m := 1) Af (by exact fun _ => ⟨rfl, rfl⟩) (Bl Int) (l0) (by first | rfl | simp only [Aa, V.fz, fzL, V.up, upL, Ab, Ac, Ad, slr, List.cons_append, List.nil_append] | simp [Aa, V.fz, fzL, V.up, upL, Ab, Ac, Ad, slr]) (by first | rfl | simp only [Aa, V.fz, fzL, V.up, upL, Ab, Ac, Ad, slr, List.cons_append, List.nil_append] | simp [Aa, V.fz, fzL, V.up, upL, Ab, Ac, Ad, slr]) h fun h => ?_
 conv => whnf
 cases h; exact (by first | rfl | simp only [Ah, Aa, V.fz, fzL, V.up, upL, Ab, Ac, Ad, slr] | simp [Ah, Aa, V.fz, fzL, V.up, upL, Ab, Ac, Ad, slr])
end Go.Proofs.Ytcpgnfohmeineaa.Ax
