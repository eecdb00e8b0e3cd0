/-
 What the functions compute, as functions on plain data, and that the program does compute it; written by program.
-/
import Derived.Test.YtoikbcagaanhgaaCode
namespace Go.Proofs.Ytoikbcagaanhgaa.Ax
open Go
set_option maxRecDepth 100000
set_option maxHeartbeats 4000000
noncomputable def Wa (code0 : (List Int)) : Option Bool :=
 some (decide ((↑code0.length : Int) > (65536 : Int)))
theorem Aw9 {code0 : (List Int)} {v : Bool} (h : Wa code0 = some v) : Ret Try.prog Ab9 [(slr false 1 (V.int IntKind.u8)) code0] (V.bool v) := by
 refine Av Awx (Nat.le_of_ble_eq_true rfl) ?_
 unfold Wa at h
 refine Len.map ?_
 cases h; exact (by rfl)
noncomputable def Fy (a0 : List Int) (b0 : List Int) : Int → Option (Int ⊕ (Unit ⊕ Unit)) := fun x5 =>
 if x5 < (↑a0.length : Int) then
 ask ((0 : Int) ≤ x5 ∧ x5 < (↑a0.length : Int)) <|
 ask ((0 : Int) ≤ x5 ∧ x5 < (↑b0.length : Int)) <|
 if nth a0 x5.toNat ≠ nth b0 x5.toNat then
 some (.inr (.inl ()))
 else
 ask (InI (x5 + (1 : Int))) <|
 some (.inl (x5 + (1 : Int)))
 else
 some (.inr (.inr ()))
def R3 (a0 : List Int) (b0 : List Int) : Int → St := fun s => [(5, A.val (Ab s)), (0, A.val ((slr false 1 Ab) (a0))), (1, A.val ((slr false 1 Ab) (b0)))]
def Aax (_a0 : List Int) (_b0 : List Int) : (Unit ⊕ Unit) → Tgt
 | (.inl _s) => (Ex.ret, [4], [(4, A.val (V.bool (false)))])
 | (.inr _s) => ((Ex.exit 0), [], [])
theorem Ame {a0 : List Int} {b0 : List Int} (x5 : Int) (o : Int ⊕ (Unit ⊕ Unit)) (h : Fy a0 b0 x5 = some o) : vc Try.prog Aau (Bp [5, 0, 1] (R3 a0 b0) (Aax a0 b0) o) (R3 a0 b0 x5) := by
 unfold Fy at h
 try dsimp only at h
 refine Len.map ?_
 refine Br.od h (fun p2 h => ?_) (fun p2 h => ?_)
 ·refine Len.map ?_
  refine Ask.o h fun p3 h => ?_
  refine Elem.o (by first | omega | (simp [Am] at *; omega)) ?_
  refine Len.map ?_
  refine Ask.o h fun p4 h => ?_
  refine Elem.o (by first | omega | (simp [Am] at *; omega)) ?_
  refine Br.on h (fun p5 h => ?_) (fun p5 h => ?_)
  ·cases h; exact ⟨rfl, rfl⟩
  refine Ask.o h fun p6 h => ?_
  cases h; exact ⟨rfl, rfl⟩
 cases h; exact ⟨rfl, rfl⟩
noncomputable def Ht (a0 : (List Int)) (b0 : (List Int)) : Option Bool :=
 if (↑a0.length : Int) ≠ (↑b0.length : Int) then
 some false
 else
 (Ai (Fy a0 b0) (0 : Int)).bind fun t => match t with
 | (.inl _) => (some false)
 | (.inr _) => (some true)
theorem Zl {a0 : (List Int)} {b0 : (List Int)} {v : Bool} (h : Ht a0 b0 = some v) : Ret Try.prog N7 [(slr false 1 Ab) a0, (slr false 1 Ab) b0] (V.bool v) := by
 refine Av As8 (Nat.le_of_ble_eq_true rfl) ?_
 unfold Ht at h
 iterate 2 refine Len.map ?_
 refine Br.on h (fun p1 h => ?_) (fun p1 h => ?_)
 ·cases h; exact (by rfl)
 refine LoopQ.o [5, 0, 1] (R3 a0 b0) (Aax a0 b0) h (fun s o h => Ame s o h) (by first | rfl | simp [restrict, look, Ad, V.fz, fzL, V.up, upL, Ae, Af, Ah, slr]) (by rintro (_ | _) <;> rfl) ?_
 rintro (⟨⟩ | ⟨⟩) h
 ·try dsimp only at h
  cases h; exact (by rfl)
 try dsimp only at h
 cases h; exact (by rfl)
noncomputable def H2 (x0 : Int) (a0 : Int) (b0 : Int) : Option Bool :=
 if x0 ≥ a0 then
 some (decide (x0 ≤ b0))
 else
 some false
theorem Rn {x0 : Int} {a0 : Int} {b0 : Int} {v : Bool} (h : H2 x0 a0 b0 = some v) : Ret Try.prog Kv [Ab x0, Ab a0, Ab b0] (V.bool v) := by
 refine Av Av2 (Nat.le_of_ble_eq_true rfl) ?_
 unfold H2 at h
 refine Br.od h (fun p1 h => ?_) (fun p1 h => ?_)
 ·refine Br.yes ?_
  iterate 2 refine Br.yes ?_
  cases h; exact (by rfl)
 iterate 3 refine Br.no ?_
 cases h; exact (by rfl)
noncomputable def F4 (n0 : Int) : (Int × Int) → Option ((Int × Int) ⊕ Int) := fun (x5, x1) =>
 if x1 > (0 : Int) then
 ask (InI (x5 * n0)) <|
 ask (InI (x1 - (1 : Int))) <|
 some (.inl (x5 * n0, x1 - (1 : Int)))
 else
 some (.inr x5)
def R8 (n0 : Int) : (Int × Int) → St := fun s => [(5, A.val (Ab s.1)), (0, A.val (Ab (n0))), (1, A.val (Ab s.2))]
def Aar (_n0 : Int) : Int → Tgt
 | s => ((Ex.exit 0), [5], [(5, A.val (Ab s))])
theorem Amw {n0 : Int} (s : (Int × Int)) (o : (Int × Int) ⊕ Int) (h : F4 n0 s = some o) : vc Try.prog Aas (Bp [5, 0, 1] (R8 n0) (Aar n0) o) (R8 n0 s) := by
 obtain ⟨x5, x1⟩ := s
 unfold F4 at h
 try dsimp only at h
 refine Br.od h (fun p1 h => ?_) (fun p1 h => ?_)
 ·refine Ask.o h fun p2 h => ?_
  refine Ask.o h fun p3 h => ?_
  cases h; exact ⟨rfl, rfl⟩
 cases h; exact ⟨rfl, rfl⟩
noncomputable def Lf (n0 : Int) (k0 : Int) : Option Int :=
 (Ai (F4 n0) ((1 : Int), k0)).bind fun q4_5 =>
 some q4_5
theorem Auq {n0 : Int} {k0 : Int} {v : Int} (h : Lf n0 k0 = some v) : Ret Try.prog Aad [Ab n0, Ab k0] (Ab v) := by
 refine Av Au4 (Nat.le_of_ble_eq_true rfl) ?_
 unfold Lf at h
 refine LoopQ.o [5, 0, 1] (R8 n0) (Aar n0) h (fun s o h => Amw s o h) (by first | rfl | simp [restrict, look, Ad, V.fz, fzL, V.up, upL, Ae, Af, Ah, slr]) (fun _ => rfl) ?_
 rintro q4_5 h
 try dsimp only at h
 cases h; exact (by rfl)
noncomputable def E8 (list0 : List Int) (n0 : Int) : Int → Option (Int ⊕ (Unit ⊕ Unit)) := fun x9 =>
 if x9 < (↑list0.length : Int) then
 ask ((0 : Int) ≤ x9 ∧ x9 < (↑list0.length : Int)) <|
 if nth list0 x9.toNat < (0 : Int) then
 some (.inr (.inl ()))
 else
 if nth list0 x9.toNat ≥ n0 then
 some (.inr (.inl ()))
 else
 ask (InI (x9 + (1 : Int))) <|
 some (.inl (x9 + (1 : Int)))
 else
 some (.inr (.inr ()))
def Px (list0 : List Int) (n0 : Int) : Int → St := fun s => [(9, A.val (Ab s)), (8, A.val (Ab ((↑list0.length : Int)))), (7, A.val ((slr false 1 Ab) (list0))), (1, A.val (Ab (n0)))]
def X4 (_list0 : List Int) (_n0 : Int) : (Unit ⊕ Unit) → Tgt
 | (.inl _s) => (Ex.ret, [4], [(4, A.val (V.bool (false)))])
 | (.inr _s) => ((Ex.exit 0), [], [])
theorem Akq {list0 : List Int} {n0 : Int} (x9 : Int) (o : Int ⊕ (Unit ⊕ Unit)) (h : E8 list0 n0 x9 = some o) : vc Try.prog X7 (Bp [9, 8, 7, 1] (Px list0 n0) (X4 list0 n0) o) (Px list0 n0 x9) := by
 unfold E8 at h
 try dsimp only at h
 refine Br.od h (fun p1 h => ?_) (fun p1 h => ?_)
 ·refine Len.map ?_
  refine Ask.o h fun p2 h => ?_
  refine Elem.o (by first | omega | (simp [Am] at *; omega)) ?_
  refine Br.od h (fun p3 h => ?_) (fun p3 h => ?_)
  ·refine Br.yes ?_
   iterate 3 refine Br.yes ?_
   cases h; exact ⟨rfl, rfl⟩
  iterate 3 refine Br.no ?_
  refine Br.od h (fun p4 h => ?_) (fun p4 h => ?_)
  ·cases h; exact ⟨rfl, rfl⟩
  refine Ask.o h fun p5 h => ?_
  cases h; exact ⟨rfl, rfl⟩
 cases h; exact ⟨rfl, rfl⟩
noncomputable def Gg (list0 : (List Int)) (n0 : Int) : Option Bool :=
 (Ai (E8 list0 n0) (0 : Int)).bind fun t => match t with
 | (.inl _) => (some false)
 | (.inr _) => (some true)
theorem Qq {list0 : (List Int)} {n0 : Int} {v : Bool} (h : Gg list0 n0 = some v) : Ret Try.prog Jn [(slr false 1 Ab) list0, Ab n0] (V.bool v) := by
 refine Av Aro (Nat.le_of_ble_eq_true rfl) ?_
 unfold Gg at h
 refine Len.map ?_
 refine LoopQ.o [9, 8, 7, 1] (Px list0 n0) (X4 list0 n0) h (fun s o h => Akq s o h) (by first | rfl | simp [restrict, look, Ad, V.fz, fzL, V.up, upL, Ae, Af, Ah, slr]) (by rintro (_ | _) <;> rfl) ?_
 rintro (⟨⟩ | ⟨⟩) h
 ·try dsimp only at h
  cases h; exact (by rfl)
 try dsimp only at h
 cases h; exact (by rfl)
noncomputable def Fv (n0 : Int) : (Int × Int) → Option ((Int × Int) ⊕ Int) := fun (x5, x1) =>
 if x1 > (0 : Int) then
 ask (InI (x5 * n0)) <|
 ask (InI (x1 - (1 : Int))) <|
 some (.inl (x5 * n0, x1 - (1 : Int)))
 else
 some (.inr x5)
def R4 (n0 : Int) : (Int × Int) → St := fun s => [(5, A.val (Ab s.1)), (0, A.val (Ab (n0))), (1, A.val (Ab s.2))]
def Aal (_n0 : Int) : Int → Tgt
 | s => ((Ex.exit 0), [5], [(5, A.val (Ab s))])
theorem Al1 {n0 : Int} (s : (Int × Int)) (o : (Int × Int) ⊕ Int) (h : Fv n0 s = some o) : vc Try.prog Aaw (Bp [5, 0, 1] (R4 n0) (Aal n0) o) (R4 n0 s) := by
 obtain ⟨x5, x1⟩ := s
 unfold Fv at h
 try dsimp only at h
 refine Br.od h (fun p1 h => ?_) (fun p1 h => ?_)
 ·refine Ask.o h fun p2 h => ?_
  refine Ask.o h fun p3 h => ?_
  cases h; exact ⟨rfl, rfl⟩
 cases h; exact ⟨rfl, rfl⟩
noncomputable def Li (n0 : Int) (k0 : Int) : Option Int :=
 (Ai (Fv n0) ((1 : Int), k0)).bind fun q4_5 =>
 some q4_5
theorem Ath {n0 : Int} {k0 : Int} {v : Int} (h : Li n0 k0 = some v) : Ret Try.prog Zk [Ab n0, Ab k0] (Ab v) := by
 refine Av Aup (Nat.le_of_ble_eq_true rfl) ?_
 unfold Li at h
 refine LoopQ.o [5, 0, 1] (R4 n0) (Aal n0) h (fun s o h => Al1 s o h) (by first | rfl | simp [restrict, look, Ad, V.fz, fzL, V.up, upL, Ae, Af, Ah, slr]) (fun _ => rfl) ?_
 rintro q4_5 h
 try dsimp only at h
 cases h; exact (by rfl)
noncomputable def Fd (n0 : Int) : (Int × (List Int) × Int) → Option ((Int × (List Int) × Int) ⊕ (List Int)) := fun (x8, x7, x2) =>
 if x8 ≥ (0 : Int) then
 ask (n0 ≠ (0 : Int)) <|
 ask ((0 : Int) ≤ x8 ∧ x8 < (↑x7.length : Int)) <|
 ask (n0 ≠ (0 : Int) ∧ InI (x2.tdiv n0)) <|
 ask (InI (x8 - (1 : Int))) <|
 some (.inl (x8 - (1 : Int), x7.set x8.toNat (x2.tmod n0), x2.tdiv n0))
 else
 some (.inr x7)
def P3 (n0 : Int) : (Int × (List Int) × Int) → St := fun s => [(8, A.val (Ab s.1)), (7, A.val ((slr true 1 Ab) s.2.1)), (0, A.val (Ab (n0))), (2, A.val (Ab s.2.2))]
def Ym (_n0 : Int) : (List Int) → Tgt
 | s => ((Ex.exit 0), [7], [(7, A.val ((slr true 1 Ab) s))])
theorem Aj9 {n0 : Int} (s : (Int × (List Int) × Int)) (o : (Int × (List Int) × Int) ⊕ (List Int)) (h : Fd n0 s = some o) : vc Try.prog Xu (Bp [8, 7, 0, 2] (P3 n0) (Ym n0) o) (P3 n0 s) := by
 obtain ⟨x8, x7, x2⟩ := s
 unfold Fd at h
 try dsimp only at h
 refine Br.od h (fun p3 h => ?_) (fun p3 h => ?_)
 ·refine Ask.o h fun p4 h => ?_
  refine Len.map ?_
  refine Ask.o h fun p5 h => ?_
  refine SetKids.one (fun _ => ⟨rfl, rfl⟩) (x2.tmod n0) (by rfl) (by first | omega | (simp [Am] at *; omega)) ?_
  refine Ask.o h fun p6 h => ?_
  refine Ask.o h fun p7 h => ?_
  cases h; exact ⟨rfl, rfl⟩
 cases h; exact ⟨rfl, rfl⟩
noncomputable def L9 (n0 : Int) (arity0 : Int) (at0 : Int) : Option (List Int) :=
 ask ((0 : Int) ≤ arity0 ∧ arity0 ≤ (↑LIM : Int)) <|
 ask (InI (arity0 - (1 : Int))) <|
 (Ai (Fd n0) (arity0 - (1 : Int), List.replicate arity0.toNat (0 : Int), at0)).bind fun q8_7 =>
 some q8_7
theorem Arf {n0 : Int} {arity0 : Int} {at0 : Int} {v : (List Int)} (h : L9 n0 arity0 at0 = some v) : Ret Try.prog W6 [Ab n0, Ab arity0, Ab at0] ((slr true 1 Ab) v) := by
 refine Av Ard (Nat.le_of_ble_eq_true rfl) ?_
 unfold L9 at h
 refine Ask.o h fun p1 h => ?_
 refine MkQ.o Ab ((0 : Int)) rfl ?_
 refine Ask.o h fun p2 h => ?_
 refine LoopQ.o [8, 7, 0, 2] (P3 n0) (Ym n0) h (fun s o h => Aj9 s o h) (by first | rfl | simp [restrict, look, Ad, V.fz, fzL, V.up, upL, Ae, Af, Ah, slr]) (fun _ => rfl) ?_
 rintro q8_7 h
 try dsimp only at h
 cases h; exact (by rfl)
noncomputable def E5 (n0 : Int) : (Int × (List (List Bool))) → Option ((Int × (List (List Bool))) ⊕ (List (List Bool))) := fun (x9, x3) =>
 if x9 < (↑n0.toNat : Int) then
 ask ((0 : Int) ≤ n0 ∧ n0 ≤ (↑LIM : Int)) <|
 ask ((0 : Int) ≤ x9 ∧ x9 < (↑x3.length : Int)) <|
 ask (InI (x9 + (1 : Int))) <|
 some (.inl (x9 + (1 : Int), x3.set x9.toNat (List.replicate n0.toNat false)))
 else
 some (.inr x3)
def M6 (n0 : Int) : (Int × (List (List Bool))) → St := fun s => [(9, A.val (Ab s.1)), (8, A.val (Ab ((↑n0.toNat : Int)))), (3, A.val ((slr true 1 (slr true 1 V.bool)) s.2)), (0, A.val (Ab (n0)))]
def T1 (_n0 : Int) : (List (List Bool)) → Tgt
 | s => ((Ex.exit 0), [3], [(3, A.val ((slr true 1 (slr true 1 V.bool)) s))])
theorem Afs {n0 : Int} (s : (Int × (List (List Bool)))) (o : (Int × (List (List Bool))) ⊕ (List (List Bool))) (h : E5 n0 s = some o) : vc Try.prog To (Bp [9, 8, 3, 0] (M6 n0) (T1 n0) o) (M6 n0 s) := by
 obtain ⟨x9, x3⟩ := s
 unfold E5 at h
 try dsimp only at h
 refine Br.od h (fun p2 h => ?_) (fun p2 h => ?_)
 ·refine Ask.o h fun p3 h => ?_
  refine MkQ.o V.bool (false) rfl ?_
  refine Len.map ?_
  refine Ask.o h fun p4 h => ?_
  refine SetKids.one (fun _ => ⟨rfl, rfl⟩) (List.replicate n0.toNat false) (by rfl) (by first | omega | (simp [Am] at *; omega)) ?_
  refine Ask.o h fun p5 h => ?_
  cases h; exact ⟨rfl, rfl⟩
 cases h; exact ⟨rfl, rfl⟩
noncomputable def F0 (n0 : Int) : Option (List (List Bool)) :=
 ask ((0 : Int) ≤ n0 ∧ n0 ≤ (↑LIM : Int)) <|
 (Ai (E5 n0) ((0 : Int), List.replicate n0.toNat (Ao Bool))).bind fun q6_3 =>
 some q6_3
theorem Sf {n0 : Int} {v : (List (List Bool))} (h : F0 n0 = some v) : Ret Try.prog Jb [Ab n0] ((slr true 1 (slr true 1 V.bool)) v) := by
 refine Av Amh (Nat.le_of_ble_eq_true rfl) ?_
 unfold F0 at h
 refine Ask.o h fun p1 h => ?_
 refine MkQ.o (slr true 1 V.bool) (Ao Bool) rfl ?_
 refine Len.mrep ?_
 refine LoopQ.o [9, 8, 3, 0] (M6 n0) (T1 n0) h (fun s o h => Afs s o h) (by first | rfl | simp [restrict, look, Ad, V.fz, fzL, V.up, upL, Ae, Af, Ah, slr]) (fun _ => rfl) ?_
 rintro q6_3 h
 try dsimp only at h
 cases h; exact (by rfl)
noncomputable def Cj (o0 : List (List Bool)) (x11 : Int) (_x3 : SPoset) : (Int × (List Int)) → Option ((Int × (List Int)) ⊕ (List Int)) := fun (x17, x5) =>
 if x17 < (↑o0.length : Int) then
 ask ((0 : Int) ≤ x17 ∧ x17 < (↑o0.length : Int)) <|
 ask ((0 : Int) ≤ x11 ∧ x11 < (↑(nth o0 x17.toNat).length : Int)) <|
 if (nth (nth o0 x17.toNat) x11.toNat) = true then
 ask ((x5).length + ([x17]).length ≤ LIM) <|
 ask (InI (x17 + (1 : Int))) <|
 some (.inl (x17 + (1 : Int), x5 ++ [x17]))
 else
 ask (InI (x17 + (1 : Int))) <|
 some (.inl (x17 + (1 : Int), x5))
 else
 some (.inr x5)
def Jo (o0 : List (List Bool)) (x11 : Int) (x3 : SPoset) : (Int × (List Int)) → St := fun s => [(17, A.val (Ab s.1)), (16, A.val (Ab ((↑o0.length : Int)))), (5, A.val ((slr true 1 Ab) s.2)), (4, A.val (Ab (x11))), (11, A.val (Ab (x11))), (10, A.val (Ab ((↑o0.length : Int)))), (3, A.val ((rP true (Ac true)) (x3))), (2, A.val ((rP true (Ac true)) ({ Below := Ao (List Int) }))), (0, A.val ((slr false 1 (slr false 1 V.bool)) (o0)))]
def Pi (o0 : List (List Bool)) (x11 : Int) (x3 : SPoset) : (List Int) → Tgt
 | s => ((Ex.exit 2), [5, 11, 10, 3, 2, 0], [(5, A.val ((slr true 1 Ab) s)), (11, A.val (Ab (x11))), (10, A.val (Ab ((↑o0.length : Int)))), (3, A.val ((rP true (Ac true)) (x3))), (2, A.val ((rP true (Ac true)) ({ Below := Ao (List Int) }))), (0, A.val ((slr false 1 (slr false 1 V.bool)) (o0)))])
theorem Aaz {o0 : List (List Bool)} {x11 : Int} {x3 : SPoset} (s : (Int × (List Int))) (o : (Int × (List Int)) ⊕ (List Int)) (h : Cj o0 x11 x3 s = some o) : vc Try.prog Po (Bp [17, 16, 5, 4, 11, 10, 3, 2, 0] (Jo o0 x11 x3) (Pi o0 x11 x3) o) (Jo o0 x11 x3 s) := by
 obtain ⟨x17, x5⟩ := s
 unfold Cj at h
 try dsimp only at h
 refine Br.od h (fun p2 h => ?_) (fun p2 h => ?_)
 ·refine Len.map ?_
  refine Ask.o h fun p3 h => ?_
  refine Elem.o (by first | omega | (simp [Am] at *; omega)) ?_
  refine Len.map ?_
  refine Ask.o h fun p4 h => ?_
  refine Elem.o (by first | omega | (simp [Am] at *; omega)) ?_
  refine Br.ob h (fun p5 h => ?_) (fun p5 h => ?_)
  ·refine BslQ.o Ab [x17] (by exact fun _ => ⟨rfl, rfl⟩) (by rfl) ?_
   refine NoOwn.o (fun _ => rfl) ?_
   refine AppQ.o (m := 1) Ab (by exact fun _ => ⟨rfl, rfl⟩) (x5) ([x17]) (by rfl) (by rfl) h fun h => ?_
   refine Ask.o h fun p6 h => ?_
   cases h; exact ⟨rfl, rfl⟩
  refine Ask.o h fun p7 h => ?_
  cases h; exact ⟨rfl, rfl⟩
 cases h; exact ⟨rfl, rfl⟩
noncomputable def Ck (o0 : List (List Bool)) : (Int × SPoset) → Option ((Int × SPoset) ⊕ SPoset) := fun (x11, x3) =>
 if x11 < (↑o0.length : Int) then
 (Ai (Cj o0 x11 x3) ((0 : Int), Ao Int)).bind fun q8_5 =>
 ask ((x3.Below).length + ([q8_5]).length ≤ LIM) <|
 ask (InI (x11 + (1 : Int))) <|
 some (.inl (x11 + (1 : Int), { Below := x3.Below ++ [q8_5] }))
 else
 some (.inr x3)
def Jy (o0 : List (List Bool)) : (Int × SPoset) → St := fun s => [(11, A.val (Ab s.1)), (10, A.val (Ab ((↑o0.length : Int)))), (3, A.val ((rP true (Ac true)) s.2)), (2, A.val ((rP true (Ac true)) ({ Below := Ao (List Int) }))), (0, A.val ((slr false 1 (slr false 1 V.bool)) (o0)))]
def Pl (_o0 : List (List Bool)) : SPoset → Tgt
 | s => ((Ex.exit 0), [3, 2], [(3, A.val ((rP true (Ac true)) s)), (2, A.val ((rP true (Ac true)) ({ Below := Ao (List Int) })))])
theorem Abb {o0 : List (List Bool)} (s : (Int × SPoset)) (o : (Int × SPoset) ⊕ SPoset) (h : Ck o0 s = some o) : vc Try.prog Pb (Bp [11, 10, 3, 2, 0] (Jy o0) (Pl o0) o) (Jy o0 s) := by
 obtain ⟨x11, x3⟩ := s
 unfold Ck at h
 try dsimp only at h
 refine Br.od h (fun p1 h => ?_) (fun p1 h => ?_)
 ·refine BslQ.o Ab (Ao Int) (by exact fun _ => ⟨rfl, rfl⟩) (by rfl) ?_
  refine Len.map ?_
  refine LoopQ.o [17, 16, 5, 4, 11, 10, 3, 2, 0] (Jo o0 x11 x3) (Pi o0 x11 x3) h (fun s o h => Aaz s o h) (by first | rfl | simp [restrict, look, Ad, V.fz, fzL, V.up, upL, Ae, Af, Ah, slr]) (fun _ => rfl) ?_
  rintro q8_5 h
  try dsimp only at h
  refine Cells.lit rfl rfl ?_
  refine BslQ.o (slr true 1 Ab) [q8_5] (by exact fun _ => ⟨rfl, rfl⟩) (by rfl) ?_
  refine NoOwn.own rfl ?_
  iterate 2 refine Kid.lit rfl rfl ?_
  refine SetKids.lit rfl ?_
  refine AppQ.o (m := 1) (slr true 1 Ab) (by exact fun _ => ⟨rfl, rfl⟩) (x3.Below) ([q8_5]) (by rfl) (by rfl) h fun h => ?_
  refine SetKids.lit rfl ?_
  refine Ask.o h fun p9 h => ?_
  cases h; exact ⟨rfl, rfl⟩
 cases h; exact ⟨rfl, rfl⟩
noncomputable def G0 (o0 : (List (List Bool))) : Option SPoset :=
 (Ai (Ck o0) ((0 : Int), { Below := Ao (List Int) })).bind fun q10_3 =>
 some q10_3
theorem Afm {o0 : (List (List Bool))} {v : SPoset} (h : G0 o0 = some v) : Ret Try.prog M0 [(slr false 1 (slr false 1 V.bool)) o0] ((Ac true) v) := by
 refine Av Agl (Nat.le_of_ble_eq_true rfl) ?_
 unfold G0 at h
 refine BslQ.o (slr true 1 Ab) (Ao (List Int)) (by exact fun _ => ⟨rfl, rfl⟩) (by rfl) ?_
 refine SetKids.lit rfl ?_
 refine Len.map ?_
 refine LoopQ.o [11, 10, 3, 2, 0] (Jy o0) (Pl o0) h (fun s o h => Abb s o h) (by first | rfl | simp [restrict, look, Ad, V.fz, fzL, V.up, upL, Ae, Af, Ah, slr]) (fun _ => rfl) ?_
 rintro q10_3 h
 try dsimp only at h
 refine Cells.lit rfl rfl ?_
 refine SetKids.lit rfl ?_
 cases h; exact (by rfl)
noncomputable def Cr (p0 : SPoset) (q0 : SPoset) (x7 : Int) (x8 : Int) (_x5' : SPoset) (x10 : Int) : (Int × (List Int)) → Option ((Int × (List Int)) ⊕ (List Int)) := fun (x11, x9') =>
 ask ((0 : Int) ≤ x8 ∧ x8 < (↑q0.Below.length : Int)) <|
 if x11 < (↑(nth q0.Below x8.toNat).length : Int) then
 ask ((0 : Int) ≤ x7 ∧ x7 < (↑p0.Below.length : Int)) <|
 ask ((0 : Int) ≤ x10 ∧ x10 < (↑(nth p0.Below x7.toNat).length : Int)) <|
 ask (InI (nth (nth p0.Below x7.toNat) x10.toNat * (↑q0.Below.length : Int))) <|
 ask ((0 : Int) ≤ x8 ∧ x8 < (↑q0.Below.length : Int)) <|
 ask ((0 : Int) ≤ x11 ∧ x11 < (↑(nth q0.Below x8.toNat).length : Int)) <|
 ask (InI (nth (nth p0.Below x7.toNat) x10.toNat * (↑q0.Below.length : Int) + nth (nth q0.Below x8.toNat) x11.toNat)) <|
 ask ((x9').length + ([nth (nth p0.Below x7.toNat) x10.toNat * (↑q0.Below.length : Int) + nth (nth q0.Below x8.toNat) x11.toNat]).length ≤ LIM) <|
 ask (InI (x11 + (1 : Int))) <|
 some (.inl (x11 + (1 : Int), x9' ++ [nth (nth p0.Below x7.toNat) x10.toNat * (↑q0.Below.length : Int) + nth (nth q0.Below x8.toNat) x11.toNat]))
 else
 some (.inr x9')
def Kq (p0 : SPoset) (q0 : SPoset) (x7 : Int) (x8 : Int) (x5' : SPoset) (x10 : Int) : (Int × (List Int)) → St := fun s => [(11, A.val (Ab s.1)), (10, A.val (Ab (x10))), (9, A.val ((slr true 1 Ab) s.2)), (8, A.val (Ab (x8))), (7, A.val (Ab (x7))), (6, A.val (Ab ((↑q0.Below.length : Int)))), (5, A.val ((rP true (Ac true)) (x5'))), (4, A.val ((rP true (Ac true)) ({ Below := Ao (List Int) }))), (3, A.val ((rP true (Ac false)) (q0))), (2, A.val ((rP true (Ac false)) (p0)))]
def Rq (p0 : SPoset) (q0 : SPoset) (x7 : Int) (x8 : Int) (x5' : SPoset) (x10 : Int) : (List Int) → Tgt
 | s => ((Ex.exit 6), [10, 9, 8, 7, 6, 5, 4, 3, 2], [(10, A.val (Ab (x10))), (9, A.val ((slr true 1 Ab) s)), (8, A.val (Ab (x8))), (7, A.val (Ab (x7))), (6, A.val (Ab ((↑q0.Below.length : Int)))), (5, A.val ((rP true (Ac true)) (x5'))), (4, A.val ((rP true (Ac true)) ({ Below := Ao (List Int) }))), (3, A.val ((rP true (Ac false)) (q0))), (2, A.val ((rP true (Ac false)) (p0)))])
theorem Acx {p0 : SPoset} {q0 : SPoset} {x7 : Int} {x8 : Int} {x5' : SPoset} {x10 : Int} (s : (Int × (List Int))) (o : (Int × (List Int)) ⊕ (List Int)) (h : Cr p0 q0 x7 x8 x5' x10 s = some o) : vc Try.prog Q1 (Bp [11, 10, 9, 8, 7, 6, 5, 4, 3, 2] (Kq p0 q0 x7 x8 x5' x10) (Rq p0 q0 x7 x8 x5' x10) o) (Kq p0 q0 x7 x8 x5' x10 s) := by
 obtain ⟨x11, x9'⟩ := s
 unfold Cr at h
 try dsimp only at h
 refine Cells.lit rfl rfl ?_
 refine Len.map ?_
 refine Ask.o h fun p5 h => ?_
 refine Elem.o (by first | omega | (simp [Am] at *; omega)) ?_
 refine Len.map ?_
 refine Br.od h (fun p6 h => ?_) (fun p6 h => ?_)
 ·refine Cells.lit rfl rfl ?_
  refine Len.map ?_
  refine Ask.o h fun p7 h => ?_
  refine Elem.o (by first | omega | (simp [Am] at *; omega)) ?_
  refine Len.map ?_
  refine Ask.o h fun p8 h => ?_
  refine Elem.o (by first | omega | (simp [Am] at *; omega)) ?_
  refine Ask.o h fun p9 h => ?_
  refine Cells.lit rfl rfl ?_
  refine Len.map ?_
  refine Ask.o h fun p10 h => ?_
  refine Elem.o (by first | omega | (simp [Am] at *; omega)) ?_
  refine Len.map ?_
  refine Ask.o h fun p11 h => ?_
  refine Elem.o (by first | omega | (simp [Am] at *; omega)) ?_
  refine Ask.o h fun p12 h => ?_
  refine BslQ.o Ab ([nth (nth p0.Below x7.toNat) x10.toNat * (↑q0.Below.length : Int) + nth (nth q0.Below x8.toNat) x11.toNat]) (by exact fun _ => ⟨rfl, rfl⟩) (by rfl) ?_
  refine NoOwn.o (fun _ => rfl) ?_
  refine AppQ.o (m := 1) Ab (by exact fun _ => ⟨rfl, rfl⟩) (x9') ([nth (nth p0.Below x7.toNat) x10.toNat * (↑q0.Below.length : Int) + nth (nth q0.Below x8.toNat) x11.toNat]) (by rfl) (by rfl) h fun h => ?_
  refine Ask.o h fun p13 h => ?_
  cases h; exact ⟨rfl, rfl⟩
 cases h; exact ⟨rfl, rfl⟩
noncomputable def Cq (p0 : SPoset) (q0 : SPoset) (x7 : Int) (x8 : Int) (x5' : SPoset) : (Int × (List Int)) → Option ((Int × (List Int)) ⊕ (List Int)) := fun (x10, x9) =>
 ask ((0 : Int) ≤ x7 ∧ x7 < (↑p0.Below.length : Int)) <|
 if x10 < (↑(nth p0.Below x7.toNat).length : Int) then
 (Ai (Cr p0 q0 x7 x8 x5' x10) ((0 : Int), x9)).bind fun q14_9 =>
 ask (InI (x10 + (1 : Int))) <|
 some (.inl (x10 + (1 : Int), q14_9))
 else
 some (.inr x9)
def K3 (p0 : SPoset) (q0 : SPoset) (x7 : Int) (x8 : Int) (x5' : SPoset) : (Int × (List Int)) → St := fun s => [(10, A.val (Ab s.1)), (9, A.val ((slr true 1 Ab) s.2)), (8, A.val (Ab (x8))), (7, A.val (Ab (x7))), (6, A.val (Ab ((↑q0.Below.length : Int)))), (5, A.val ((rP true (Ac true)) (x5'))), (4, A.val ((rP true (Ac true)) ({ Below := Ao (List Int) }))), (3, A.val ((rP true (Ac false)) (q0))), (2, A.val ((rP true (Ac false)) (p0)))]
def Rb (p0 : SPoset) (q0 : SPoset) (x7 : Int) (x8 : Int) (x5' : SPoset) : (List Int) → Tgt
 | s => ((Ex.exit 4), [9, 8, 7, 6, 5, 4, 3, 2], [(9, A.val ((slr true 1 Ab) s)), (8, A.val (Ab (x8))), (7, A.val (Ab (x7))), (6, A.val (Ab ((↑q0.Below.length : Int)))), (5, A.val ((rP true (Ac true)) (x5'))), (4, A.val ((rP true (Ac true)) ({ Below := Ao (List Int) }))), (3, A.val ((rP true (Ac false)) (q0))), (2, A.val ((rP true (Ac false)) (p0)))])
theorem Ac4 {p0 : SPoset} {q0 : SPoset} {x7 : Int} {x8 : Int} {x5' : SPoset} (s : (Int × (List Int))) (o : (Int × (List Int)) ⊕ (List Int)) (h : Cq p0 q0 x7 x8 x5' s = some o) : vc Try.prog Q6 (Bp [10, 9, 8, 7, 6, 5, 4, 3, 2] (K3 p0 q0 x7 x8 x5') (Rb p0 q0 x7 x8 x5') o) (K3 p0 q0 x7 x8 x5' s) := by
 obtain ⟨x10, x9⟩ := s
 unfold Cq at h
 try dsimp only at h
 refine Cells.lit rfl rfl ?_
 refine Len.map ?_
 refine Ask.o h fun p3 h => ?_
 refine Elem.o (by first | omega | (simp [Am] at *; omega)) ?_
 refine Len.map ?_
 refine Br.od h (fun p4 h => ?_) (fun p4 h => ?_)
 ·refine LoopQ.o [11, 10, 9, 8, 7, 6, 5, 4, 3, 2] (Kq p0 q0 x7 x8 x5' x10) (Rq p0 q0 x7 x8 x5' x10) h (fun s o h => Acx s o h) (by first | rfl | simp [restrict, look, Ad, V.fz, fzL, V.up, upL, Ae, Af, Ah, slr]) (fun _ => rfl) ?_
  rintro q14_9 h
  try dsimp only at h
  refine Ask.o h fun p15 h => ?_
  cases h; exact ⟨rfl, rfl⟩
 cases h; exact ⟨rfl, rfl⟩
noncomputable def Co (p0 : SPoset) (q0 : SPoset) (x7 : Int) : (Int × SPoset) → Option ((Int × SPoset) ⊕ SPoset) := fun (x8, x5') =>
 if x8 < (↑q0.Below.length : Int) then
 (Ai (Cq p0 q0 x7 x8 x5') ((0 : Int), Ao Int)).bind fun q16_9 =>
 ask ((x5'.Below).length + ([q16_9]).length ≤ LIM) <|
 ask (InI (x8 + (1 : Int))) <|
 some (.inl (x8 + (1 : Int), { Below := x5'.Below ++ [q16_9] }))
 else
 some (.inr x5')
def Ks (p0 : SPoset) (q0 : SPoset) (x7 : Int) : (Int × SPoset) → St := fun s => [(8, A.val (Ab s.1)), (7, A.val (Ab (x7))), (6, A.val (Ab ((↑q0.Below.length : Int)))), (5, A.val ((rP true (Ac true)) s.2)), (4, A.val ((rP true (Ac true)) ({ Below := Ao (List Int) }))), (3, A.val ((rP true (Ac false)) (q0))), (2, A.val ((rP true (Ac false)) (p0)))]
def Rg (p0 : SPoset) (q0 : SPoset) (x7 : Int) : SPoset → Tgt
 | s => ((Ex.exit 2), [7, 6, 5, 4, 3, 2], [(7, A.val (Ab (x7))), (6, A.val (Ab ((↑q0.Below.length : Int)))), (5, A.val ((rP true (Ac true)) s)), (4, A.val ((rP true (Ac true)) ({ Below := Ao (List Int) }))), (3, A.val ((rP true (Ac false)) (q0))), (2, A.val ((rP true (Ac false)) (p0)))])
theorem Ach {p0 : SPoset} {q0 : SPoset} {x7 : Int} (s : (Int × SPoset)) (o : (Int × SPoset) ⊕ SPoset) (h : Co p0 q0 x7 s = some o) : vc Try.prog Rv (Bp [8, 7, 6, 5, 4, 3, 2] (Ks p0 q0 x7) (Rg p0 q0 x7) o) (Ks p0 q0 x7 s) := by
 obtain ⟨x8, x5'⟩ := s
 unfold Co at h
 try dsimp only at h
 refine Br.od h (fun p2 h => ?_) (fun p2 h => ?_)
 ·refine BslQ.o Ab (Ao Int) (by exact fun _ => ⟨rfl, rfl⟩) (by rfl) ?_
  refine LoopQ.o [10, 9, 8, 7, 6, 5, 4, 3, 2] (K3 p0 q0 x7 x8 x5') (Rb p0 q0 x7 x8 x5') h (fun s o h => Ac4 s o h) (by first | rfl | simp [restrict, look, Ad, V.fz, fzL, V.up, upL, Ae, Af, Ah, slr]) (fun _ => rfl) ?_
  rintro q16_9 h
  try dsimp only at h
  refine Cells.lit rfl rfl ?_
  refine BslQ.o (slr true 1 Ab) [q16_9] (by exact fun _ => ⟨rfl, rfl⟩) (by rfl) ?_
  refine NoOwn.own rfl ?_
  iterate 2 refine Kid.lit rfl rfl ?_
  refine SetKids.lit rfl ?_
  refine AppQ.o (m := 1) (slr true 1 Ab) (by exact fun _ => ⟨rfl, rfl⟩) (x5'.Below) ([q16_9]) (by rfl) (by rfl) h fun h => ?_
  refine SetKids.lit rfl ?_
  refine Ask.o h fun p17 h => ?_
  cases h; exact ⟨rfl, rfl⟩
 cases h; exact ⟨rfl, rfl⟩
noncomputable def Ct (p0 : SPoset) (q0 : SPoset) : (Int × SPoset) → Option ((Int × SPoset) ⊕ SPoset) := fun (x7, x5) =>
 if x7 < (↑p0.Below.length : Int) then
 (Ai (Co p0 q0 x7) ((0 : Int), x5)).bind fun q18_5 =>
 ask (InI (x7 + (1 : Int))) <|
 some (.inl (x7 + (1 : Int), q18_5))
 else
 some (.inr x5)
def Kh (p0 : SPoset) (q0 : SPoset) : (Int × SPoset) → St := fun s => [(7, A.val (Ab s.1)), (6, A.val (Ab ((↑q0.Below.length : Int)))), (5, A.val ((rP true (Ac true)) s.2)), (4, A.val ((rP true (Ac true)) ({ Below := Ao (List Int) }))), (3, A.val ((rP true (Ac false)) (q0))), (2, A.val ((rP true (Ac false)) (p0)))]
def Rh (_p0 : SPoset) (_q0 : SPoset) : SPoset → Tgt
 | s => ((Ex.exit 0), [5, 4], [(5, A.val ((rP true (Ac true)) s)), (4, A.val ((rP true (Ac true)) ({ Below := Ao (List Int) })))])
theorem Acf {p0 : SPoset} {q0 : SPoset} (s : (Int × SPoset)) (o : (Int × SPoset) ⊕ SPoset) (h : Ct p0 q0 s = some o) : vc Try.prog Qz (Bp [7, 6, 5, 4, 3, 2] (Kh p0 q0) (Rh p0 q0) o) (Kh p0 q0 s) := by
 obtain ⟨x7, x5⟩ := s
 unfold Ct at h
 try dsimp only at h
 refine Cells.lit rfl rfl ?_
 refine Len.map ?_
 refine Br.od h (fun p1 h => ?_) (fun p1 h => ?_)
 ·refine LoopQ.o [8, 7, 6, 5, 4, 3, 2] (Ks p0 q0 x7) (Rg p0 q0 x7) h (fun s o h => Ach s o h) (by first | rfl | simp [restrict, look, Ad, V.fz, fzL, V.up, upL, Ae, Af, Ah, slr]) (fun _ => rfl) ?_
  rintro q18_5 h
  try dsimp only at h
  refine Ask.o h fun p19 h => ?_
  cases h; exact ⟨rfl, rfl⟩
 cases h; exact ⟨rfl, rfl⟩
noncomputable def H3 (p0 : SPoset) (q0 : SPoset) : Option SPoset :=
 (Ai (Ct p0 q0) ((0 : Int), { Below := Ao (List Int) })).bind fun q20_5 =>
 some q20_5
theorem Aiw {p0 : SPoset} {q0 : SPoset} {v : SPoset} (h : H3 p0 q0 = some v) : Ret Try.prog N5 [(Ac false) p0, (Ac false) q0] ((Ac true) v) := by
 refine Av Aix (Nat.le_of_ble_eq_true rfl) ?_
 unfold H3 at h
 refine BslQ.o (slr true 1 Ab) (Ao (List Int)) (by exact fun _ => ⟨rfl, rfl⟩) (by rfl) ?_
 refine SetKids.lit rfl ?_
 refine Cells.lit rfl rfl ?_
 refine Len.map ?_
 refine LoopQ.o [7, 6, 5, 4, 3, 2] (Kh p0 q0) (Rh p0 q0) h (fun s o h => Acf s o h) (by first | rfl | simp [restrict, look, Ad, V.fz, fzL, V.up, upL, Ae, Af, Ah, slr]) (fun _ => rfl) ?_
 rintro q20_5 h
 try dsimp only at h
 refine Cells.lit rfl rfl ?_
 refine SetKids.lit rfl ?_
 cases h; exact (by rfl)
noncomputable def N4 (l0 : (List Int)) : Option (List Int) :=
 ask ((Ao Int).length + (l0).length ≤ LIM) <|
 some (Ao Int ++ l0)
theorem Ati {l0 : (List Int)} {v : (List Int)} (h : N4 l0 = some v) : Ret Try.prog Z8 [(slr false 1 Ab) l0] ((slr true 1 Ab) v) := by
 refine Av Atm (Nat.le_of_ble_eq_true rfl) ?_
 unfold N4 at h
 refine BslQ.o Ab (Ao Int) (by exact fun _ => ⟨rfl, rfl⟩) (by rfl) ?_
 refine AppQ.o (m := 1) Ab (by exact fun _ => ⟨rfl, rfl⟩) (Ao Int) (l0) (by rfl) (by rfl) h fun h => ?_
 cases h; exact (by rfl)
end Go.Proofs.Ytoikbcagaanhgaa.Ax
