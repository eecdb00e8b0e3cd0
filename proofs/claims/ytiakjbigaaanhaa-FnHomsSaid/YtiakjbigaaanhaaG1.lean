/-
 What the functions compute, as functions on plain data, and that the program does compute it; written by program.
-/
import Derived.Test.YtiakjbigaaanhaaCode
namespace Go.Proofs.Ytiakjbigaaanhaa.Ax
open Go
set_option maxRecDepth 100000
set_option maxHeartbeats 4000000
noncomputable def P6 (code0 : (List Int)) : Option Bool :=
 some (decide ((↑code0.length : Int) > (65536 : Int)))
theorem An9 {code0 : (List Int)} {v : Bool} (h : P6 code0 = some v) : Ret Try.prog U3 [(slr false 1 (V.int IntKind.u8)) code0] (V.bool v) := by
 refine Av Apb (Nat.le_of_ble_eq_true rfl) ?_
 unfold P6 at h
 conv => whnf
 refine Len.map ?_
 conv => whnf
 cases h; exact (by first | rfl | simp only [Ah, Aa, V.fz, fzL, V.up, upL, Ab, Ac, Ad, slr] | simp [Ah, Aa, V.fz, fzL, V.up, upL, Ab, Ac, Ad, slr])
noncomputable def Ee (a0 : List Int) (b0 : List Int) : Int → Option (Int ⊕ (Unit ⊕ Unit)) := fun x5 =>
 if x5 < (↑a0.length : Int) then
 ask ((0 : Int) ≤ x5 ∧ x5 < (↑a0.length : Int)) <|
 ask ((0 : Int) ≤ x5 ∧ x5 < (↑b0.length : Int)) <|
 if nth a0 x5.toNat ≠ nth b0 x5.toNat then
 some (.inr (.inl ()))
 else
 ask (InI (x5 + (1 : Int))) <|
 some (.inl (x5 + (1 : Int)))
 else
 some (.inr (.inr ()))
def M2 (a0 : List Int) (b0 : List Int) : Int → St := fun s => [(5, A.val (Ag s)), (0, A.val ((slr false 1 Ag) (a0))), (1, A.val ((slr false 1 Ag) (b0)))]
def Ue (_a0 : List Int) (_b0 : List Int) : (Unit ⊕ Unit) → Tgt
 | (.inl _s) => (Ex.ret, [4], [(4, A.val (V.bool (false)))])
 | (.inr _s) => ((Ex.exit 0), [], [])
theorem Ad5 {a0 : List Int} {b0 : List Int} (x5 : Int) (o : Int ⊕ (Unit ⊕ Unit)) (h : Ee a0 b0 x5 = some o) : vc Try.prog Ub (Cc [5, 0, 1] (M2 a0 b0) (Ue a0 b0) o) (M2 a0 b0 x5) := by
 unfold Ee at h
 try dsimp only at h
 conv => whnf
 refine Len.map ?_
 conv => whnf
 refine Br.od h (fun p2 h => ?_) (fun p2 h => ?_)
 ·conv => whnf
  refine Len.map ?_
  conv => whnf
  refine Ask.o h fun p3 h => ?_
  conv => whnf
  refine Elem.o (by first | omega | (simp [Ap] at *; omega)) ?_
  conv => whnf
  refine Len.map ?_
  conv => whnf
  refine Ask.o h fun p4 h => ?_
  conv => whnf
  refine Elem.o (by first | omega | (simp [Ap] at *; omega)) ?_
  conv => whnf
  refine Br.on h (fun p5 h => ?_) (fun p5 h => ?_)
  ·conv => whnf
   cases h; exact ⟨rfl, rfl⟩
  conv => whnf
  refine Ask.o h fun p6 h => ?_
  conv => whnf
  cases h; exact ⟨rfl, rfl⟩
 conv => whnf
 cases h; exact ⟨rfl, rfl⟩
noncomputable def Gm (a0 : (List Int)) (b0 : (List Int)) : Option Bool :=
 if (↑a0.length : Int) ≠ (↑b0.length : Int) then
 some false
 else
 (Am (Ee a0 b0) (0 : Int)).bind fun t => match t with
 | (.inl _) => (some false)
 | (.inr _) => (some true)
theorem S7 {a0 : (List Int)} {b0 : (List Int)} {v : Bool} (h : Gm a0 b0 = some v) : Ret Try.prog J6 [(slr false 1 Ag) a0, (slr false 1 Ag) b0] (V.bool v) := by
 refine Av Al0 (Nat.le_of_ble_eq_true rfl) ?_
 unfold Gm at h
 conv => whnf
 refine Len.map ?_
 conv => whnf
 refine Len.map ?_
 conv => whnf
 refine Br.on h (fun p1 h => ?_) (fun p1 h => ?_)
 ·conv => whnf
  cases h; exact (by first | rfl | simp only [Ah, Aa, V.fz, fzL, V.up, upL, Ab, Ac, Ad, slr] | simp [Ah, Aa, V.fz, fzL, V.up, upL, Ab, Ac, Ad, slr])
 conv => whnf
 refine LoopQ.o [5, 0, 1] (M2 a0 b0) (Ue a0 b0) h (fun s o h => Ad5 s o h) (by first | rfl | simp [restrict, look, Aa, V.fz, fzL, V.up, upL, Ab, Ac, Ad, slr]) (by rintro (_ | _) <;> rfl) ?_
 rintro (⟨⟩ | ⟨⟩) h
 ·try dsimp only at h
  conv => whnf
  cases h; exact (by first | rfl | simp only [Ah, Aa, V.fz, fzL, V.up, upL, Ab, Ac, Ad, slr] | simp [Ah, Aa, V.fz, fzL, V.up, upL, Ab, Ac, Ad, slr])
 try dsimp only at h
 conv => whnf
 cases h; exact (by first | rfl | simp only [Ah, Aa, V.fz, fzL, V.up, upL, Ab, Ac, Ad, slr] | simp [Ah, Aa, V.fz, fzL, V.up, upL, Ab, Ac, Ad, slr])
noncomputable def Db (list0 : List Int) (n0 : Int) : Int → Option (Int ⊕ (Unit ⊕ Unit)) := fun x9 =>
 if x9 < (↑list0.length : Int) then
 ask ((0 : Int) ≤ x9 ∧ x9 < (↑list0.length : Int)) <|
 if nth list0 x9.toNat < (0 : Int) then
 some (.inr (.inl ()))
 else
 if nth list0 x9.toNat ≥ n0 then
 some (.inr (.inl ()))
 else
 ask (InI (x9 + (1 : Int))) <|
 some (.inl (x9 + (1 : Int)))
 else
 some (.inr (.inr ()))
def La (list0 : List Int) (n0 : Int) : Int → St := fun s => [(9, A.val (Ag s)), (8, A.val (Ag ((↑list0.length : Int)))), (7, A.val ((slr false 1 Ag) (list0))), (1, A.val (Ag (n0)))]
def Rl (_list0 : List Int) (_n0 : Int) : (Unit ⊕ Unit) → Tgt
 | (.inl _s) => (Ex.ret, [4], [(4, A.val (V.bool (false)))])
 | (.inr _s) => ((Ex.exit 0), [], [])
theorem Aa5 {list0 : List Int} {n0 : Int} (x9 : Int) (o : Int ⊕ (Unit ⊕ Unit)) (h : Db list0 n0 x9 = some o) : vc Try.prog Sr (Cc [9, 8, 7, 1] (La list0 n0) (Rl list0 n0) o) (La list0 n0 x9) := by
 unfold Db at h
 try dsimp only at h
 conv => whnf
 refine Br.od h (fun p1 h => ?_) (fun p1 h => ?_)
 ·conv => whnf
  refine Len.map ?_
  conv => whnf
  refine Ask.o h fun p2 h => ?_
  conv => whnf
  refine Elem.o (by first | omega | (simp [Ap] at *; omega)) ?_
  conv => whnf
  refine Br.od h (fun p3 h => ?_) (fun p3 h => ?_)
  ·conv => whnf
   refine Br.yes ?_
   conv => whnf
   refine Br.yes ?_
   conv => whnf
   refine Br.yes ?_
   conv => whnf
   refine Br.yes ?_
   conv => whnf
   cases h; exact ⟨rfl, rfl⟩
  conv => whnf
  refine Br.no ?_
  conv => whnf
  refine Br.no ?_
  conv => whnf
  refine Br.no ?_
  conv => whnf
  refine Br.od h (fun p4 h => ?_) (fun p4 h => ?_)
  ·conv => whnf
   cases h; exact ⟨rfl, rfl⟩
  conv => whnf
  refine Ask.o h fun p5 h => ?_
  conv => whnf
  cases h; exact ⟨rfl, rfl⟩
 conv => whnf
 cases h; exact ⟨rfl, rfl⟩
noncomputable def Er (list0 : (List Int)) (n0 : Int) : Option Bool :=
 (Am (Db list0 n0) (0 : Int)).bind fun t => match t with
 | (.inl _) => (some false)
 | (.inr _) => (some true)
theorem L4 {list0 : (List Int)} {n0 : Int} {v : Bool} (h : Er list0 n0 = some v) : Ret Try.prog G3 [(slr false 1 Ag) list0, Ag n0] (V.bool v) := by
 refine Av Ah6 (Nat.le_of_ble_eq_true rfl) ?_
 unfold Er at h
 conv => whnf
 refine Len.map ?_
 conv => whnf
 refine LoopQ.o [9, 8, 7, 1] (La list0 n0) (Rl list0 n0) h (fun s o h => Aa5 s o h) (by first | rfl | simp [restrict, look, Aa, V.fz, fzL, V.up, upL, Ab, Ac, Ad, slr]) (by rintro (_ | _) <;> rfl) ?_
 rintro (⟨⟩ | ⟨⟩) h
 ·try dsimp only at h
  conv => whnf
  cases h; exact (by first | rfl | simp only [Ah, Aa, V.fz, fzL, V.up, upL, Ab, Ac, Ad, slr] | simp [Ah, Aa, V.fz, fzL, V.up, upL, Ab, Ac, Ad, slr])
 try dsimp only at h
 conv => whnf
 cases h; exact (by first | rfl | simp only [Ah, Aa, V.fz, fzL, V.up, upL, Ab, Ac, Ad, slr] | simp [Ah, Aa, V.fz, fzL, V.up, upL, Ab, Ac, Ad, slr])
noncomputable def Fj (x0 : Int) (a0 : Int) (b0 : Int) : Option Bool :=
 if x0 ≥ a0 then
 some (decide (x0 ≤ b0))
 else
 some false
theorem Mr {x0 : Int} {a0 : Int} {b0 : Int} {v : Bool} (h : Fj x0 a0 b0 = some v) : Ret Try.prog He [Ag x0, Ag a0, Ag b0] (V.bool v) := by
 refine Av Apa (Nat.le_of_ble_eq_true rfl) ?_
 unfold Fj at h
 conv => whnf
 refine Br.od h (fun p1 h => ?_) (fun p1 h => ?_)
 ·conv => whnf
  refine Br.yes ?_
  conv => whnf
  refine Br.yes ?_
  conv => whnf
  refine Br.yes ?_
  conv => whnf
  cases h; exact (by first | rfl | simp only [Ah, Aa, V.fz, fzL, V.up, upL, Ab, Ac, Ad, slr] | simp [Ah, Aa, V.fz, fzL, V.up, upL, Ab, Ac, Ad, slr])
 conv => whnf
 refine Br.no ?_
 conv => whnf
 refine Br.no ?_
 conv => whnf
 refine Br.no ?_
 conv => whnf
 cases h; exact (by first | rfl | simp only [Ah, Aa, V.fz, fzL, V.up, upL, Ab, Ac, Ad, slr] | simp [Ah, Aa, V.fz, fzL, V.up, upL, Ab, Ac, Ad, slr])
noncomputable def K9 (n0 : Int) : (Int × (List Int) × Int) → Option ((Int × (List Int) × Int) ⊕ (List Int)) := fun (x8, x7, x0) =>
 if x8 ≥ (0 : Int) then
 ask (n0 ≠ (0 : Int)) <|
 ask ((0 : Int) ≤ x8 ∧ x8 < (↑x7.length : Int)) <|
 ask (n0 ≠ (0 : Int) ∧ InI (x0.tdiv n0)) <|
 ask (InI (x8 - (1 : Int))) <|
 some (.inl (x8 - (1 : Int), x7.set x8.toNat (x0.tmod n0), x0.tdiv n0))
 else
 some (.inr x7)
def Ky (n0 : Int) : (Int × (List Int) × Int) → St := fun s => [(8, A.val (Ag s.1)), (7, A.val ((slr true 1 Ag) s.2.1)), (0, A.val (Ag s.2.2)), (2, A.val (Ag (n0)))]
def Sx (_n0 : Int) : (List Int) → Tgt
 | s => ((Ex.exit 0), [7], [(7, A.val ((slr true 1 Ag) s))])
theorem Aan {n0 : Int} (s : (Int × (List Int) × Int)) (o : (Int × (List Int) × Int) ⊕ (List Int)) (h : K9 n0 s = some o) : vc Try.prog Rv (Cc [8, 7, 0, 2] (Ky n0) (Sx n0) o) (Ky n0 s) := by
 obtain ⟨x8, x7, x0⟩ := s
 unfold K9 at h
 try dsimp only at h
 conv => whnf
 refine Br.od h (fun p3 h => ?_) (fun p3 h => ?_)
 ·conv => whnf
  refine Ask.o h fun p4 h => ?_
  conv => whnf
  refine Len.map ?_
  conv => whnf
  refine Ask.o h fun p5 h => ?_
  conv => whnf
  refine SetKids.one (fun _ => ⟨rfl, rfl⟩) (x0.tmod n0) (by first | rfl | simp only [Aa, V.fz, fzL, V.up, upL, Ab, Ac, Ad, slr, List.cons_append, List.nil_append] | simp [Aa, V.fz, fzL, V.up, upL, Ab, Ac, Ad, slr]) (by first | omega | (simp [Ap] at *; omega)) ?_
  conv => whnf
  refine Ask.o h fun p6 h => ?_
  conv => whnf
  refine Ask.o h fun p7 h => ?_
  conv => whnf
  cases h; exact ⟨rfl, rfl⟩
 conv => whnf
 cases h; exact ⟨rfl, rfl⟩
noncomputable def Io (i0 : Int) (k0 : Int) (n0 : Int) : Option (List Int) :=
 ask ((0 : Int) ≤ k0 ∧ k0 ≤ (↑LIM : Int)) <|
 ask (InI (k0 - (1 : Int))) <|
 (Am (K9 n0) (k0 - (1 : Int), List.replicate k0.toNat (0 : Int), i0)).bind fun q8_7 =>
 some q8_7
theorem Ah4 {i0 : Int} {k0 : Int} {n0 : Int} {v : (List Int)} (h : Io i0 k0 n0 = some v) : Ret Try.prog Qs [Ag i0, Ag k0, Ag n0] ((slr true 1 Ag) v) := by
 refine Av Aip (Nat.le_of_ble_eq_true rfl) ?_
 unfold Io at h
 conv => whnf
 refine Ask.o h fun p1 h => ?_
 conv => whnf
 refine MkQ.o Ag ((0 : Int)) rfl ?_
 conv => whnf
 refine Ask.o h fun p2 h => ?_
 conv => whnf
 refine LoopQ.o [8, 7, 0, 2] (Ky n0) (Sx n0) h (fun s o h => Aan s o h) (by first | rfl | simp [restrict, look, Aa, V.fz, fzL, V.up, upL, Ab, Ac, Ad, slr]) (fun _ => rfl) ?_
 rintro q8_7 h
 try dsimp only at h
 conv => whnf
 cases h; exact (by first | rfl | simp only [Ah, Aa, V.fz, fzL, V.up, upL, Ab, Ac, Ad, slr] | simp [Ah, Aa, V.fz, fzL, V.up, upL, Ab, Ac, Ad, slr])
noncomputable def C0 (args0 : List Int) (n0 : Int) : (Int × Int) → Option ((Int × Int) ⊕ Int) := fun (x10, x5) =>
 if x10 < (↑args0.length : Int) then
 ask ((0 : Int) ≤ x10 ∧ x10 < (↑args0.length : Int)) <|
 ask (InI (x5 * n0)) <|
 ask (InI (x5 * n0 + nth args0 x10.toNat)) <|
 ask (InI (x10 + (1 : Int))) <|
 some (.inl (x10 + (1 : Int), x5 * n0 + nth args0 x10.toNat))
 else
 some (.inr x5)
def Kc (args0 : List Int) (n0 : Int) : (Int × Int) → St := fun s => [(10, A.val (Ag s.1)), (9, A.val (Ag ((↑args0.length : Int)))), (8, A.val ((slr false 1 Ag) (args0))), (5, A.val (Ag s.2)), (1, A.val (Ag (n0)))]
def Qq (_args0 : List Int) (_n0 : Int) : Int → Tgt
 | s => ((Ex.exit 0), [5], [(5, A.val (Ag s))])
theorem Yk {args0 : List Int} {n0 : Int} (s : (Int × Int)) (o : (Int × Int) ⊕ Int) (h : C0 args0 n0 s = some o) : vc Try.prog Pt (Cc [10, 9, 8, 5, 1] (Kc args0 n0) (Qq args0 n0) o) (Kc args0 n0 s) := by
 obtain ⟨x10, x5⟩ := s
 unfold C0 at h
 try dsimp only at h
 conv => whnf
 refine Br.od h (fun p1 h => ?_) (fun p1 h => ?_)
 ·conv => whnf
  refine Len.map ?_
  conv => whnf
  refine Ask.o h fun p2 h => ?_
  conv => whnf
  refine Elem.o (by first | omega | (simp [Ap] at *; omega)) ?_
  conv => whnf
  refine Ask.o h fun p3 h => ?_
  conv => whnf
  refine Ask.o h fun p4 h => ?_
  conv => whnf
  refine Ask.o h fun p5 h => ?_
  conv => whnf
  cases h; exact ⟨rfl, rfl⟩
 conv => whnf
 cases h; exact ⟨rfl, rfl⟩
noncomputable def Hg (args0 : (List Int)) (n0 : Int) : Option Int :=
 (Am (C0 args0 n0) ((0 : Int), (0 : Int))).bind fun q6_5 =>
 some q6_5
theorem Af8 {args0 : (List Int)} {n0 : Int} {v : Int} (h : Hg args0 n0 = some v) : Ret Try.prog Oz [(slr false 1 Ag) args0, Ag n0] (Ag v) := by
 refine Av Agj (Nat.le_of_ble_eq_true rfl) ?_
 unfold Hg at h
 conv => whnf
 refine Len.map ?_
 conv => whnf
 refine LoopQ.o [10, 9, 8, 5, 1] (Kc args0 n0) (Qq args0 n0) h (fun s o h => Yk s o h) (by first | rfl | simp [restrict, look, Aa, V.fz, fzL, V.up, upL, Ab, Ac, Ad, slr]) (fun _ => rfl) ?_
 rintro q6_5 h
 try dsimp only at h
 conv => whnf
 cases h; exact (by first | rfl | simp only [Ah, Aa, V.fz, fzL, V.up, upL, Ab, Ac, Ad, slr] | simp [Ah, Aa, V.fz, fzL, V.up, upL, Ab, Ac, Ad, slr])
noncomputable def C3 (f0 : List Int) (g0 : List Int) : (Int × (List Int)) → Option ((Int × (List Int)) ⊕ (List Int)) := fun (x13, x5) =>
 if x13 < (↑f0.length : Int) then
 ask ((0 : Int) ≤ x13 ∧ x13 < (↑f0.length : Int)) <|
 ask ((0 : Int) ≤ nth f0 x13.toNat ∧ nth f0 x13.toNat < (↑g0.length : Int)) <|
 ask ((0 : Int) ≤ x13 ∧ x13 < (↑x5.length : Int)) <|
 ask (InI (x13 + (1 : Int))) <|
 some (.inl (x13 + (1 : Int), x5.set x13.toNat (nth g0 (nth f0 x13.toNat).toNat)))
 else
 some (.inr x5)
def Jv (f0 : List Int) (g0 : List Int) : (Int × (List Int)) → St := fun s => [(13, A.val (Ag s.1)), (12, A.val (Ag ((↑f0.length : Int)))), (11, A.val ((slr false 1 Ag) (f0))), (5, A.val ((slr true 1 Ag) s.2)), (1, A.val ((slr false 1 Ag) (g0)))]
def P1 (_f0 : List Int) (_g0 : List Int) : (List Int) → Tgt
 | s => ((Ex.exit 0), [5], [(5, A.val ((slr true 1 Ag) s))])
theorem Zd {f0 : List Int} {g0 : List Int} (s : (Int × (List Int))) (o : (Int × (List Int)) ⊕ (List Int)) (h : C3 f0 g0 s = some o) : vc Try.prog P7 (Cc [13, 12, 11, 5, 1] (Jv f0 g0) (P1 f0 g0) o) (Jv f0 g0 s) := by
 obtain ⟨x13, x5⟩ := s
 unfold C3 at h
 try dsimp only at h
 conv => whnf
 refine Br.od h (fun p2 h => ?_) (fun p2 h => ?_)
 ·conv => whnf
  refine Len.map ?_
  conv => whnf
  refine Ask.o h fun p3 h => ?_
  conv => whnf
  refine Elem.o (by first | omega | (simp [Ap] at *; omega)) ?_
  conv => whnf
  refine Len.map ?_
  conv => whnf
  refine Ask.o h fun p4 h => ?_
  conv => whnf
  refine Elem.o (by first | omega | (simp [Ap] at *; omega)) ?_
  conv => whnf
  refine Len.map ?_
  conv => whnf
  refine Ask.o h fun p5 h => ?_
  conv => whnf
  refine SetKids.one (fun _ => ⟨rfl, rfl⟩) (nth g0 (nth f0 x13.toNat).toNat) (by first | rfl | simp only [Aa, V.fz, fzL, V.up, upL, Ab, Ac, Ad, slr, List.cons_append, List.nil_append] | simp [Aa, V.fz, fzL, V.up, upL, Ab, Ac, Ad, slr]) (by first | omega | (simp [Ap] at *; omega)) ?_
  conv => whnf
  refine Ask.o h fun p6 h => ?_
  conv => whnf
  cases h; exact ⟨rfl, rfl⟩
 conv => whnf
 cases h; exact ⟨rfl, rfl⟩
noncomputable def Hi (f0 : (List Int)) (g0 : (List Int)) : Option (List Int) :=
 ask ((0 : Int) ≤ (↑f0.length : Int) ∧ (↑f0.length : Int) ≤ (↑LIM : Int)) <|
 (Am (C3 f0 g0) ((0 : Int), List.replicate (↑f0.length : Int).toNat (0 : Int))).bind fun q7_5 =>
 some q7_5
theorem Aeo {f0 : (List Int)} {g0 : (List Int)} {v : (List Int)} (h : Hi f0 g0 = some v) : Ret Try.prog O3 [(slr false 1 Ag) f0, (slr false 1 Ag) g0] ((slr true 1 Ag) v) := by
 refine Av Agv (Nat.le_of_ble_eq_true rfl) ?_
 unfold Hi at h
 conv => whnf
 refine Len.map ?_
 conv => whnf
 refine Ask.o h fun p1 h => ?_
 conv => whnf
 refine MkQ.o Ag ((0 : Int)) rfl ?_
 conv => whnf
 refine Len.map ?_
 conv => whnf
 refine LoopQ.o [13, 12, 11, 5, 1] (Jv f0 g0) (P1 f0 g0) h (fun s o h => Zd s o h) (by first | rfl | simp [restrict, look, Aa, V.fz, fzL, V.up, upL, Ab, Ac, Ad, slr]) (fun _ => rfl) ?_
 rintro q7_5 h
 try dsimp only at h
 conv => whnf
 cases h; exact (by first | rfl | simp only [Ah, Aa, V.fz, fzL, V.up, upL, Ab, Ac, Ad, slr] | simp [Ah, Aa, V.fz, fzL, V.up, upL, Ab, Ac, Ad, slr])
noncomputable def Bj (f0 : List Int) (args0 : List Int) : (Int × (List Int)) → Option ((Int × (List Int)) ⊕ (List Int)) := fun (x6, x5) =>
 if x6 < (↑args0.length : Int) then
 ask ((0 : Int) ≤ x6 ∧ x6 < (↑args0.length : Int)) <|
 ask ((0 : Int) ≤ nth args0 x6.toNat ∧ nth args0 x6.toNat < (↑f0.length : Int)) <|
 ask ((x5).length + ([nth f0 (nth args0 x6.toNat).toNat]).length ≤ LIM) <|
 ask (InI (x6 + (1 : Int))) <|
 some (.inl (x6 + (1 : Int), x5 ++ [nth f0 (nth args0 x6.toNat).toNat]))
 else
 some (.inr x5)
def I8 (f0 : List Int) (args0 : List Int) : (Int × (List Int)) → St := fun s => [(6, A.val (Ag s.1)), (5, A.val ((slr true 1 Ag) s.2)), (0, A.val ((slr false 1 Ag) (f0))), (1, A.val ((slr false 1 Ag) (args0)))]
def O4 (_f0 : List Int) (_args0 : List Int) : (List Int) → Tgt
 | s => ((Ex.exit 0), [5], [(5, A.val ((slr true 1 Ag) s))])
theorem X9 {f0 : List Int} {args0 : List Int} (s : (Int × (List Int))) (o : (Int × (List Int)) ⊕ (List Int)) (h : Bj f0 args0 s = some o) : vc Try.prog Ou (Cc [6, 5, 0, 1] (I8 f0 args0) (O4 f0 args0) o) (I8 f0 args0 s) := by
 obtain ⟨x6, x5⟩ := s
 unfold Bj at h
 try dsimp only at h
 conv => whnf
 refine Len.map ?_
 conv => whnf
 refine Br.od h (fun p1 h => ?_) (fun p1 h => ?_)
 ·conv => whnf
  refine Len.map ?_
  conv => whnf
  refine Ask.o h fun p2 h => ?_
  conv => whnf
  refine Elem.o (by first | omega | (simp [Ap] at *; omega)) ?_
  conv => whnf
  refine Len.map ?_
  conv => whnf
  refine Ask.o h fun p3 h => ?_
  conv => whnf
  refine Elem.o (by first | omega | (simp [Ap] at *; omega)) ?_
  conv => whnf
  refine BslQ.o Ag ([nth f0 (nth args0 x6.toNat).toNat]) (by exact fun _ => ⟨rfl, rfl⟩) (by first | rfl | simp only [Aa, V.fz, fzL, V.up, upL, Ab, Ac, Ad, slr, List.cons_append, List.nil_append] | simp [Aa, V.fz, fzL, V.up, upL, Ab, Ac, Ad, slr]) ?_
  conv => whnf
  refine NoOwn.o (fun _ => rfl) ?_
  conv => whnf
  refine AppQ.o (m := 1) Ag (by exact fun _ => ⟨rfl, rfl⟩) (x5) ([nth f0 (nth args0 x6.toNat).toNat]) (by first | rfl | simp only [Aa, V.fz, fzL, V.up, upL, Ab, Ac, Ad, slr, List.cons_append, List.nil_append] | simp [Aa, V.fz, fzL, V.up, upL, Ab, Ac, Ad, slr]) (by first | rfl | simp only [Aa, V.fz, fzL, V.up, upL, Ab, Ac, Ad, slr, List.cons_append, List.nil_append] | simp [Aa, V.fz, fzL, V.up, upL, Ab, Ac, Ad, slr]) h fun h => ?_
  conv => whnf
  refine Ask.o h fun p4 h => ?_
  conv => whnf
  cases h; exact ⟨rfl, rfl⟩
 conv => whnf
 cases h; exact ⟨rfl, rfl⟩
noncomputable def Cf (f0 : (List Int)) (args0 : (List Int)) : Option (List Int) :=
 (Am (Bj f0 args0) ((0 : Int), Al Int)).bind fun q5_5 =>
 some q5_5
theorem M8 {f0 : (List Int)} {args0 : (List Int)} {v : (List Int)} (h : Cf f0 args0 = some v) : Ret Try.prog G0 [(slr false 1 Ag) f0, (slr false 1 Ag) args0] ((slr true 1 Ag) v) := by
 refine Av Ac6 (Nat.le_of_ble_eq_true rfl) ?_
 unfold Cf at h
 conv => whnf
 refine BslQ.o Ag (Al Int) (by exact fun _ => ⟨rfl, rfl⟩) (by first | rfl | simp only [Aa, V.fz, fzL, V.up, upL, Ab, Ac, Ad, slr, List.cons_append, List.nil_append] | simp [Aa, V.fz, fzL, V.up, upL, Ab, Ac, Ad, slr]) ?_
 conv => whnf
 refine LoopQ.o [6, 5, 0, 1] (I8 f0 args0) (O4 f0 args0) h (fun s o h => X9 s o h) (by first | rfl | simp [restrict, look, Aa, V.fz, fzL, V.up, upL, Ab, Ac, Ad, slr]) (fun _ => rfl) ?_
 rintro q5_5 h
 try dsimp only at h
 conv => whnf
 cases h; exact (by first | rfl | simp only [Ah, Aa, V.fz, fzL, V.up, upL, Ab, Ac, Ad, slr] | simp [Ah, Aa, V.fz, fzL, V.up, upL, Ab, Ac, Ad, slr])
noncomputable def Dz (f0 : List Int) : (Int × (List Int)) → Option ((Int × (List Int)) ⊕ (List Int)) := fun (x11, x3) =>
 if x11 < (↑f0.length : Int) then
 ask ((0 : Int) ≤ x11 ∧ x11 < (↑f0.length : Int)) <|
 ask ((0 : Int) ≤ nth f0 x11.toNat ∧ nth f0 x11.toNat < (↑x3.length : Int)) <|
 ask (InI (x11 + (1 : Int))) <|
 some (.inl (x11 + (1 : Int), x3.set (nth f0 x11.toNat).toNat x11))
 else
 some (.inr x3)
def Kp (f0 : List Int) : (Int × (List Int)) → St := fun s => [(11, A.val (Ag s.1)), (10, A.val (Ag ((↑f0.length : Int)))), (9, A.val ((slr false 1 Ag) (f0))), (3, A.val ((slr true 1 Ag) s.2))]
def Qb (_f0 : List Int) : (List Int) → Tgt
 | s => ((Ex.exit 0), [3], [(3, A.val ((slr true 1 Ag) s))])
theorem Zi {f0 : List Int} (s : (Int × (List Int))) (o : (Int × (List Int)) ⊕ (List Int)) (h : Dz f0 s = some o) : vc Try.prog Qi (Cc [11, 10, 9, 3] (Kp f0) (Qb f0) o) (Kp f0 s) := by
 obtain ⟨x11, x3⟩ := s
 unfold Dz at h
 try dsimp only at h
 conv => whnf
 refine Br.od h (fun p2 h => ?_) (fun p2 h => ?_)
 ·conv => whnf
  refine Len.map ?_
  conv => whnf
  refine Ask.o h fun p3 h => ?_
  conv => whnf
  refine Elem.o (by first | omega | (simp [Ap] at *; omega)) ?_
  conv => whnf
  refine Len.map ?_
  conv => whnf
  refine Ask.o h fun p4 h => ?_
  conv => whnf
  refine SetKids.one (fun _ => ⟨rfl, rfl⟩) (x11) (by first | rfl | simp only [Aa, V.fz, fzL, V.up, upL, Ab, Ac, Ad, slr, List.cons_append, List.nil_append] | simp [Aa, V.fz, fzL, V.up, upL, Ab, Ac, Ad, slr]) (by first | omega | (simp [Ap] at *; omega)) ?_
  conv => whnf
  refine Ask.o h fun p5 h => ?_
  conv => whnf
  cases h; exact ⟨rfl, rfl⟩
 conv => whnf
 cases h; exact ⟨rfl, rfl⟩
noncomputable def Jx (f0 : (List Int)) : Option (List Int) :=
 ask ((0 : Int) ≤ (↑f0.length : Int) ∧ (↑f0.length : Int) ≤ (↑LIM : Int)) <|
 (Am (Dz f0) ((0 : Int), List.replicate (↑f0.length : Int).toNat (0 : Int))).bind fun q6_3 =>
 some q6_3
theorem Aep {f0 : (List Int)} {v : (List Int)} (h : Jx f0 = some v) : Ret Try.prog Om [(slr false 1 Ag) f0] ((slr true 1 Ag) v) := by
 refine Av Ae5 (Nat.le_of_ble_eq_true rfl) ?_
 unfold Jx at h
 conv => whnf
 refine Len.map ?_
 conv => whnf
 refine Ask.o h fun p1 h => ?_
 conv => whnf
 refine MkQ.o Ag ((0 : Int)) rfl ?_
 conv => whnf
 refine Len.map ?_
 conv => whnf
 refine LoopQ.o [11, 10, 9, 3] (Kp f0) (Qb f0) h (fun s o h => Zi s o h) (by first | rfl | simp [restrict, look, Aa, V.fz, fzL, V.up, upL, Ab, Ac, Ad, slr]) (fun _ => rfl) ?_
 rintro q6_3 h
 try dsimp only at h
 conv => whnf
 cases h; exact (by first | rfl | simp only [Ah, Aa, V.fz, fzL, V.up, upL, Ab, Ac, Ad, slr] | simp [Ah, Aa, V.fz, fzL, V.up, upL, Ab, Ac, Ad, slr])
noncomputable def D8 (l0 : List Int) (n0 : Int) : Int → Option (Int ⊕ (Unit ⊕ Unit)) := fun x5 =>
 if x5 < (↑l0.length : Int) then
 ask ((0 : Int) ≤ x5 ∧ x5 < (↑l0.length : Int)) <|
 if nth l0 x5.toNat = n0 then
 some (.inr (.inl ()))
 else
 ask (InI (x5 + (1 : Int))) <|
 some (.inl (x5 + (1 : Int)))
 else
 some (.inr (.inr ()))
def Nh (l0 : List Int) (n0 : Int) : Int → St := fun s => [(5, A.val (Ag s)), (0, A.val ((slr false 1 Ag) (l0))), (1, A.val (Ag (n0)))]
def Uf (_l0 : List Int) (_n0 : Int) : (Unit ⊕ Unit) → Tgt
 | (.inl _s) => (Ex.ret, [4], [(4, A.val (V.bool (true)))])
 | (.inr _s) => ((Ex.exit 0), [], [])
theorem Adq {l0 : List Int} {n0 : Int} (x5 : Int) (o : Int ⊕ (Unit ⊕ Unit)) (h : D8 l0 n0 x5 = some o) : vc Try.prog Ua (Cc [5, 0, 1] (Nh l0 n0) (Uf l0 n0) o) (Nh l0 n0 x5) := by
 unfold D8 at h
 try dsimp only at h
 conv => whnf
 refine Len.map ?_
 conv => whnf
 refine Br.od h (fun p1 h => ?_) (fun p1 h => ?_)
 ·conv => whnf
  refine Len.map ?_
  conv => whnf
  refine Ask.o h fun p2 h => ?_
  conv => whnf
  refine Elem.o (by first | omega | (simp [Ap] at *; omega)) ?_
  conv => whnf
  refine Br.oe h (fun p3 h => ?_) (fun p3 h => ?_)
  ·conv => whnf
   cases h; exact ⟨rfl, rfl⟩
  conv => whnf
  refine Ask.o h fun p4 h => ?_
  conv => whnf
  cases h; exact ⟨rfl, rfl⟩
 conv => whnf
 cases h; exact ⟨rfl, rfl⟩
noncomputable def Gj (l0 : (List Int)) (n0 : Int) : Option Bool :=
 (Am (D8 l0 n0) (0 : Int)).bind fun t => match t with
 | (.inl _) => (some true)
 | (.inr _) => (some false)
theorem Te {l0 : (List Int)} {n0 : Int} {v : Bool} (h : Gj l0 n0 = some v) : Ret Try.prog J0 [(slr false 1 Ag) l0, Ag n0] (V.bool v) := by
 refine Av Amw (Nat.le_of_ble_eq_true rfl) ?_
 unfold Gj at h
 conv => whnf
 refine LoopQ.o [5, 0, 1] (Nh l0 n0) (Uf l0 n0) h (fun s o h => Adq s o h) (by first | rfl | simp [restrict, look, Aa, V.fz, fzL, V.up, upL, Ab, Ac, Ad, slr]) (by rintro (_ | _) <;> rfl) ?_
 rintro (⟨⟩ | ⟨⟩) h
 ·try dsimp only at h
  conv => whnf
  cases h; exact (by first | rfl | simp only [Ah, Aa, V.fz, fzL, V.up, upL, Ab, Ac, Ad, slr] | simp [Ah, Aa, V.fz, fzL, V.up, upL, Ab, Ac, Ad, slr])
 try dsimp only at h
 conv => whnf
 cases h; exact (by first | rfl | simp only [Ah, Aa, V.fz, fzL, V.up, upL, Ab, Ac, Ad, slr] | simp [Ah, Aa, V.fz, fzL, V.up, upL, Ab, Ac, Ad, slr])
noncomputable def Eb (n0 : Int) : (Int × Int) → Option ((Int × Int) ⊕ Int) := fun (x5, x1) =>
 if x1 > (0 : Int) then
 ask (InI (x5 * n0)) <|
 ask (InI (x1 - (1 : Int))) <|
 some (.inl (x5 * n0, x1 - (1 : Int)))
 else
 some (.inr x5)
def Nk (n0 : Int) : (Int × Int) → St := fun s => [(5, A.val (Ag s.1)), (0, A.val (Ag (n0))), (1, A.val (Ag s.2))]
def Uj (_n0 : Int) : Int → Tgt
 | s => ((Ex.exit 0), [5], [(5, A.val (Ag s))])
theorem Aeb {n0 : Int} (s : (Int × Int)) (o : (Int × Int) ⊕ Int) (h : Eb n0 s = some o) : vc Try.prog T3 (Cc [5, 0, 1] (Nk n0) (Uj n0) o) (Nk n0 s) := by
 obtain ⟨x5, x1⟩ := s
 unfold Eb at h
 try dsimp only at h
 conv => whnf
 refine Br.od h (fun p1 h => ?_) (fun p1 h => ?_)
 ·conv => whnf
  refine Ask.o h fun p2 h => ?_
  conv => whnf
  refine Ask.o h fun p3 h => ?_
  conv => whnf
  cases h; exact ⟨rfl, rfl⟩
 conv => whnf
 cases h; exact ⟨rfl, rfl⟩
noncomputable def Fd (n0 : Int) (k0 : Int) : Option Int :=
 (Am (Eb n0) ((1 : Int), k0)).bind fun q4_5 =>
 some q4_5
theorem Th {n0 : Int} {k0 : Int} {v : Int} (h : Fd n0 k0 = some v) : Ret Try.prog Jq [Ag n0, Ag k0] (Ag v) := by
 refine Av Ak9 (Nat.le_of_ble_eq_true rfl) ?_
 unfold Fd at h
 conv => whnf
 refine LoopQ.o [5, 0, 1] (Nk n0) (Uj n0) h (fun s o h => Aeb s o h) (by first | rfl | simp [restrict, look, Aa, V.fz, fzL, V.up, upL, Ab, Ac, Ad, slr]) (fun _ => rfl) ?_
 rintro q4_5 h
 try dsimp only at h
 conv => whnf
 cases h; exact (by first | rfl | simp only [Ah, Aa, V.fz, fzL, V.up, upL, Ab, Ac, Ad, slr] | simp [Ah, Aa, V.fz, fzL, V.up, upL, Ab, Ac, Ad, slr])
noncomputable def D7 (n0 : Int) : (Int × Int) → Option ((Int × Int) ⊕ Int) := fun (x5, x1) =>
 if x1 > (0 : Int) then
 ask (InI (x5 * n0)) <|
 ask (InI (x1 - (1 : Int))) <|
 some (.inl (x5 * n0, x1 - (1 : Int)))
 else
 some (.inr x5)
def Ni (n0 : Int) : (Int × Int) → St := fun s => [(5, A.val (Ag s.1)), (0, A.val (Ag (n0))), (1, A.val (Ag s.2))]
def T6 (_n0 : Int) : Int → Tgt
 | s => ((Ex.exit 0), [5], [(5, A.val (Ag s))])
theorem Ad6 {n0 : Int} (s : (Int × Int)) (o : (Int × Int) ⊕ Int) (h : D7 n0 s = some o) : vc Try.prog T0 (Cc [5, 0, 1] (Ni n0) (T6 n0) o) (Ni n0 s) := by
 obtain ⟨x5, x1⟩ := s
 unfold D7 at h
 try dsimp only at h
 conv => whnf
 refine Br.od h (fun p1 h => ?_) (fun p1 h => ?_)
 ·conv => whnf
  refine Ask.o h fun p2 h => ?_
  conv => whnf
  refine Ask.o h fun p3 h => ?_
  conv => whnf
  cases h; exact ⟨rfl, rfl⟩
 conv => whnf
 cases h; exact ⟨rfl, rfl⟩
noncomputable def Ic (n0 : Int) (k0 : Int) : Option Int :=
 (Am (D7 n0) ((1 : Int), k0)).bind fun q4_5 =>
 some q4_5
theorem Alv {n0 : Int} {k0 : Int} {v : Int} (h : Ic n0 k0 = some v) : Ret Try.prog Tn [Ag n0, Ag k0] (Ag v) := by
 refine Av Amt (Nat.le_of_ble_eq_true rfl) ?_
 unfold Ic at h
 conv => whnf
 refine LoopQ.o [5, 0, 1] (Ni n0) (T6 n0) h (fun s o h => Ad6 s o h) (by first | rfl | simp [restrict, look, Aa, V.fz, fzL, V.up, upL, Ab, Ac, Ad, slr]) (fun _ => rfl) ?_
 rintro q4_5 h
 try dsimp only at h
 conv => whnf
 cases h; exact (by first | rfl | simp only [Ah, Aa, V.fz, fzL, V.up, upL, Ab, Ac, Ad, slr] | simp [Ah, Aa, V.fz, fzL, V.up, upL, Ab, Ac, Ad, slr])
noncomputable def Ei (l0 : (List Int)) : Option (List Int) :=
 ask ((Al Int).length + (l0).length ≤ LIM) <|
 some (Al Int ++ l0)
theorem Nq {l0 : (List Int)} {v : (List Int)} (h : Ei l0 = some v) : Ret Try.prog Hz [(slr false 1 Ag) l0] ((slr true 1 Ag) v) := by
 refine Av Ald (Nat.le_of_ble_eq_true rfl) ?_
 unfold Ei at h
 conv => whnf
 refine BslQ.o Ag (Al Int) (by exact fun _ => ⟨rfl, rfl⟩) (by first | rfl | simp only [Aa, V.fz, fzL, V.up, upL, Ab, Ac, Ad, slr, List.cons_append, List.nil_append] | simp [Aa, V.fz, fzL, V.up, upL, Ab, Ac, Ad, slr]) ?_
 conv => whnf
 refine AppQ.o (m := 1) Ag (by exact fun _ => ⟨rfl, rfl⟩) (Al Int) (l0) (by first | rfl | simp only [Aa, V.fz, fzL, V.up, upL, Ab, Ac, Ad, slr, List.cons_append, List.nil_append] | simp [Aa, V.fz, fzL, V.up, upL, Ab, Ac, Ad, slr]) (by first | rfl | simp only [Aa, V.fz, fzL, V.up, upL, Ab, Ac, Ad, slr, List.cons_append, List.nil_append] | simp [Aa, V.fz, fzL, V.up, upL, Ab, Ac, Ad, slr]) h fun h => ?_
 conv => whnf
 cases h; exact (by first | rfl | simp only [Ah, Aa, V.fz, fzL, V.up, upL, Ab, Ac, Ad, slr] | simp [Ah, Aa, V.fz, fzL, V.up, upL, Ab, Ac, Ad, slr])
noncomputable def Dg (n0 : Int) : (Int × (List Int) × Int) → Option ((Int × (List Int) × Int) ⊕ (List Int)) := fun (x8, x7, x2) =>
 if x8 ≥ (0 : Int) then
 ask (n0 ≠ (0 : Int)) <|
 ask ((0 : Int) ≤ x8 ∧ x8 < (↑x7.length : Int)) <|
 ask (n0 ≠ (0 : Int) ∧ InI (x2.tdiv n0)) <|
 ask (InI (x8 - (1 : Int))) <|
 some (.inl (x8 - (1 : Int), x7.set x8.toNat (x2.tmod n0), x2.tdiv n0))
 else
 some (.inr x7)
def Lm (n0 : Int) : (Int × (List Int) × Int) → St := fun s => [(8, A.val (Ag s.1)), (7, A.val ((slr true 1 Ag) s.2.1)), (0, A.val (Ag (n0))), (2, A.val (Ag s.2.2))]
def Rc (_n0 : Int) : (List Int) → Tgt
 | s => ((Ex.exit 0), [7], [(7, A.val ((slr true 1 Ag) s))])
theorem Aaw {n0 : Int} (s : (Int × (List Int) × Int)) (o : (Int × (List Int) × Int) ⊕ (List Int)) (h : Dg n0 s = some o) : vc Try.prog Rf (Cc [8, 7, 0, 2] (Lm n0) (Rc n0) o) (Lm n0 s) := by
 obtain ⟨x8, x7, x2⟩ := s
 unfold Dg at h
 try dsimp only at h
 conv => whnf
 refine Br.od h (fun p3 h => ?_) (fun p3 h => ?_)
 ·conv => whnf
  refine Ask.o h fun p4 h => ?_
  conv => whnf
  refine Len.map ?_
  conv => whnf
  refine Ask.o h fun p5 h => ?_
  conv => whnf
  refine SetKids.one (fun _ => ⟨rfl, rfl⟩) (x2.tmod n0) (by first | rfl | simp only [Aa, V.fz, fzL, V.up, upL, Ab, Ac, Ad, slr, List.cons_append, List.nil_append] | simp [Aa, V.fz, fzL, V.up, upL, Ab, Ac, Ad, slr]) (by first | omega | (simp [Ap] at *; omega)) ?_
  conv => whnf
  refine Ask.o h fun p6 h => ?_
  conv => whnf
  refine Ask.o h fun p7 h => ?_
  conv => whnf
  cases h; exact ⟨rfl, rfl⟩
 conv => whnf
 cases h; exact ⟨rfl, rfl⟩
noncomputable def Cw (n0 : Int) (arity0 : Int) (at0 : Int) : Option (List Int) :=
 ask ((0 : Int) ≤ arity0 ∧ arity0 ≤ (↑LIM : Int)) <|
 ask (InI (arity0 - (1 : Int))) <|
 (Am (Dg n0) (arity0 - (1 : Int), List.replicate arity0.toNat (0 : Int), at0)).bind fun q8_7 =>
 some q8_7
theorem Iq {n0 : Int} {arity0 : Int} {at0 : Int} {v : (List Int)} (h : Cw n0 arity0 at0 = some v) : Ret Try.prog Fr [Ag n0, Ag arity0, Ag at0] ((slr true 1 Ag) v) := by
 refine Av Aim (Nat.le_of_ble_eq_true rfl) ?_
 unfold Cw at h
 conv => whnf
 refine Ask.o h fun p1 h => ?_
 conv => whnf
 refine MkQ.o Ag ((0 : Int)) rfl ?_
 conv => whnf
 refine Ask.o h fun p2 h => ?_
 conv => whnf
 refine LoopQ.o [8, 7, 0, 2] (Lm n0) (Rc n0) h (fun s o h => Aaw s o h) (by first | rfl | simp [restrict, look, Aa, V.fz, fzL, V.up, upL, Ab, Ac, Ad, slr]) (fun _ => rfl) ?_
 rintro q8_7 h
 try dsimp only at h
 conv => whnf
 cases h; exact (by first | rfl | simp only [Ah, Aa, V.fz, fzL, V.up, upL, Ab, Ac, Ad, slr] | simp [Ah, Aa, V.fz, fzL, V.up, upL, Ab, Ac, Ad, slr])
noncomputable def Dx (c0 : Sl1Cur) : Option (Int × Sl1Cur) :=
 ((if c0.at_ < (↑c0.code.length : Int) then
 ask ((0 : Int) ≤ c0.at_ ∧ c0.at_ < (↑c0.code.length : Int)) <|
 some (IntKind.i64.wrap (nth c0.code c0.at_.toNat))
 else
 some (0 : Int) : Option Int)).bind fun q3_3 =>
 ask (InI (c0.at_ + (1 : Int))) <|
 if c0.at_ + (1 : Int) ≤ (↑c0.code.length : Int) then
 some (q3_3, { code := c0.code, at_ := c0.at_ + (1 : Int), seed := IntKind.u64.wrap (IntKind.u64.wrap (IntKind.u64.wrap (c0.seed * (6364136223846793005 : Int)) + IntKind.u64.wrap q3_3) + (550289 : Int)) })
 else
 some (IntKind.i64.wrap (IntKind.u64.wrap (↑(BitVec.ofInt IntKind.u64.bits ((IntKind.u64.wrap (IntKind.u64.wrap (IntKind.u64.wrap (c0.seed * (6364136223846793005 : Int)) + IntKind.u64.wrap q3_3) + (550289 : Int))).fdiv ((2 : Int) ^ min (Int.toNat (40 : Int)) IntKind.u64.bits)) &&& BitVec.ofInt IntKind.u64.bits (255 : Int)).toNat : Int)), { code := c0.code, at_ := c0.at_ + (1 : Int), seed := IntKind.u64.wrap (IntKind.u64.wrap (IntKind.u64.wrap (c0.seed * (6364136223846793005 : Int)) + IntKind.u64.wrap q3_3) + (550289 : Int)) })
theorem Ps {c0 : Sl1Cur} {v : (Int × Sl1Cur)} (h : Dx c0 = some v) : Tu Try.prog Hc [(rP true (Aj false)) c0] (Ag v.1) 0 ((rP true (Aj false)) v.2) := by
 refine Qh Yf (Nat.le_of_ble_eq_true rfl) ?_
 unfold Dx at h
 conv => whnf
 refine CutQ.o (fun t : Int => match t with | s => (Ex.normal, [3, 0, 62], [(3, A.val (Ag s)), (0, A.ref 62 []), (62, A.val ((rP true (Aj false)) (c0)))])) h ?_ ?_
 ·intro t h
  conv => whnf
  refine Cells.lit rfl rfl ?_
  conv => whnf
  refine Cells.lit rfl rfl ?_
  conv => whnf
  refine Len.map ?_
  conv => whnf
  refine Br.od h (fun p1 h => ?_) (fun p1 h => ?_)
  ·conv => whnf
   refine Cells.lit rfl rfl ?_
   conv => whnf
   refine Cells.lit rfl rfl ?_
   conv => whnf
   refine Len.map ?_
   conv => whnf
   refine Ask.o h fun p2 h => ?_
   conv => whnf
   refine Elem.o (by first | omega | (simp [Ap] at *; omega)) ?_
   conv => whnf
   cases h; exact ⟨rfl, rfl⟩
  conv => whnf
  cases h; exact ⟨rfl, rfl⟩
 rintro q3_3 h
 try dsimp only at h
 conv => whnf
 refine Cells.lit rfl rfl ?_
 conv => whnf
 refine Ask.o h fun p4 h => ?_
 conv => whnf
 refine SetKids.lit rfl ?_
 conv => whnf
 refine Cells.lit rfl rfl ?_
 conv => whnf
 refine SetKids.lit rfl ?_
 conv => whnf
 refine Cells.lit rfl rfl ?_
 conv => whnf
 refine Cells.lit rfl rfl ?_
 conv => whnf
 refine Len.map ?_
 conv => whnf
 refine Br.od h (fun p5 h => ?_) (fun p5 h => ?_)
 ·conv => whnf
  cases h; exact ⟨(by first | rfl | simp only [Ah, Aa, V.fz, fzL, V.up, upL, Ab, Ac, Ad, slr] | simp [Ah, Aa, V.fz, fzL, V.up, upL, Ab, Ac, Ad, slr]), (by first | rfl | simp only [Ah, Aa, V.fz, fzL, V.up, upL, Ab, Ac, Ad, slr] | simp [Ah, Aa, V.fz, fzL, V.up, upL, Ab, Ac, Ad, slr])⟩
 conv => whnf
 refine Cells.lit rfl rfl ?_
 conv => whnf
 cases h; exact ⟨(by first | rfl | simp only [Ah, Aa, V.fz, fzL, V.up, upL, Ab, Ac, Ad, slr] | simp [Ah, Aa, V.fz, fzL, V.up, upL, Ab, Ac, Ad, slr]), (by first | rfl | simp only [Ah, Aa, V.fz, fzL, V.up, upL, Ab, Ac, Ad, slr] | simp [Ah, Aa, V.fz, fzL, V.up, upL, Ab, Ac, Ad, slr])⟩
noncomputable def Bt (arity0 : Int) (a0 : SAlgebra) (b0 : SAlgebra) (f0 : List Int) : (Int × Int × Int × Int) → Option ((Int × Int × Int × Int) ⊕ Int) := fun (x13, x12, x11, x0) =>
 if x13 < arity0 then
 ask (a0.Size ≠ (0 : Int)) <|
 ask ((0 : Int) ≤ x0.tmod a0.Size ∧ x0.tmod a0.Size < (↑f0.length : Int)) <|
 ask (InI (nth f0 (x0.tmod a0.Size).toNat * x12)) <|
 ask (InI (x11 + nth f0 (x0.tmod a0.Size).toNat * x12)) <|
 ask (a0.Size ≠ (0 : Int) ∧ InI (x0.tdiv a0.Size)) <|
 ask (InI (x12 * b0.Size)) <|
 ask (InI (x13 + (1 : Int))) <|
 some (.inl (x13 + (1 : Int), x12 * b0.Size, x11 + nth f0 (x0.tmod a0.Size).toNat * x12, x0.tdiv a0.Size))
 else
 some (.inr x11)
def Hr (arity0 : Int) (a0 : SAlgebra) (b0 : SAlgebra) (f0 : List Int) : (Int × Int × Int × Int) → St := fun s => [(13, A.val (Ag s.1)), (12, A.val (Ag s.2.1)), (11, A.val (Ag s.2.2.1)), (8, A.val ((rP true (Ae false)) (b0))), (7, A.val ((rP true (Ae false)) (a0))), (0, A.val (Ag s.2.2.2)), (1, A.val (Ag (arity0))), (4, A.val ((slr false 1 Ag) (f0)))]
def Mm (_arity0 : Int) (_a0 : SAlgebra) (_b0 : SAlgebra) (_f0 : List Int) : Int → Tgt
 | s => ((Ex.exit 0), [11], [(11, A.val (Ag s))])
theorem Vq {arity0 : Int} {a0 : SAlgebra} {b0 : SAlgebra} {f0 : List Int} (s : (Int × Int × Int × Int)) (o : (Int × Int × Int × Int) ⊕ Int) (h : Bt arity0 a0 b0 f0 s = some o) : vc Try.prog Mn (Cc [13, 12, 11, 8, 7, 0, 1, 4] (Hr arity0 a0 b0 f0) (Mm arity0 a0 b0 f0) o) (Hr arity0 a0 b0 f0 s) := by
 obtain ⟨x13, x12, x11, x0⟩ := s
 unfold Bt at h
 try dsimp only at h
 conv => whnf
 refine Br.od h (fun p1 h => ?_) (fun p1 h => ?_)
 ·conv => whnf
  refine Cells.lit rfl rfl ?_
  conv => whnf
  refine Ask.o h fun p2 h => ?_
  conv => whnf
  refine Len.map ?_
  conv => whnf
  refine Ask.o h fun p3 h => ?_
  conv => whnf
  refine Elem.o (by first | omega | (simp [Ap] at *; omega)) ?_
  conv => whnf
  refine Ask.o h fun p4 h => ?_
  conv => whnf
  refine Ask.o h fun p5 h => ?_
  conv => whnf
  refine Cells.lit rfl rfl ?_
  conv => whnf
  refine Ask.o h fun p6 h => ?_
  conv => whnf
  refine Cells.lit rfl rfl ?_
  conv => whnf
  refine Ask.o h fun p7 h => ?_
  conv => whnf
  refine Ask.o h fun p8 h => ?_
  conv => whnf
  cases h; exact ⟨rfl, rfl⟩
 conv => whnf
 cases h; exact ⟨rfl, rfl⟩
noncomputable def Fc (i0 : Int) (arity0 : Int) (a0 : SAlgebra) (b0 : SAlgebra) (f0 : (List Int)) : Option Int :=
 (Am (Bt arity0 a0 b0 f0) ((0 : Int), (1 : Int), (0 : Int), i0)).bind fun q9_11 =>
 some q9_11
theorem Yq {i0 : Int} {arity0 : Int} {a0 : SAlgebra} {b0 : SAlgebra} {f0 : (List Int)} {v : Int} (h : Fc i0 arity0 a0 b0 f0 = some v) : Ret Try.prog Kn [Ag i0, Ag arity0, (Ae false) a0, (Ae false) b0, (slr false 1 Ag) f0] (Ag v) := by
 refine Av Zk (Nat.le_of_ble_eq_true rfl) ?_
 unfold Fc at h
 conv => whnf
 refine LoopQ.o [13, 12, 11, 8, 7, 0, 1, 4] (Hr arity0 a0 b0 f0) (Mm arity0 a0 b0 f0) h (fun s o h => Vq s o h) (by first | rfl | simp [restrict, look, Aa, V.fz, fzL, V.up, upL, Ab, Ac, Ad, slr]) (fun _ => rfl) ?_
 rintro q9_11 h
 try dsimp only at h
 conv => whnf
 cases h; exact (by first | rfl | simp only [Ah, Aa, V.fz, fzL, V.up, upL, Ab, Ac, Ad, slr] | simp [Ah, Aa, V.fz, fzL, V.up, upL, Ab, Ac, Ad, slr])
end Go.Proofs.Ytiakjbigaaanhaa.Ax
