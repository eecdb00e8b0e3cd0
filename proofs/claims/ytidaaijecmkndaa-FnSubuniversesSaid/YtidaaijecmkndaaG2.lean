/-
 What the functions compute, as functions on plain data, and that the program does compute it; written by program.
-/
import Derived.Test.YtidaaijecmkndaaCode
import Derived.Test.YtidaaijecmkndaaG1
namespace Go.Proofs.Ytidaaijecmkndaa.Ax
open Go
set_option maxRecDepth 100000
set_option maxHeartbeats 4000000
noncomputable def Dd (a0 : List Int) (b0 : List Int) : Int → Option (Int ⊕ (Bool ⊕ Unit)) := fun x5 =>
 if x5 < (↑a0.length : Int) then
 ask ((0 : Int) ≤ x5 ∧ x5 < (↑a0.length : Int)) <|
 ask ((0 : Int) ≤ x5 ∧ x5 < (↑b0.length : Int)) <|
 if nth a0 x5.toNat ≠ nth b0 x5.toNat then
 ask ((0 : Int) ≤ x5 ∧ x5 < (↑a0.length : Int)) <|
 ask ((0 : Int) ≤ x5 ∧ x5 < (↑b0.length : Int)) <|
 some (.inr (.inl (decide (nth a0 x5.toNat < nth b0 x5.toNat))))
 else
 ask (InI (x5 + (1 : Int))) <|
 some (.inl (x5 + (1 : Int)))
 else
 some (.inr (.inr ()))
def Kq (a0 : List Int) (b0 : List Int) : Int → St := fun s => [(5, A.val (Af s)), (0, A.val ((slr false 1 Af) (a0))), (1, A.val ((slr false 1 Af) (b0)))]
def Q3 (_a0 : List Int) (_b0 : List Int) : (Bool ⊕ Unit) → Tgt
 | (.inl s) => (Ex.ret, [4], [(4, A.val (V.bool s))])
 | (.inr _s) => ((Ex.exit 0), [], [])
theorem Ze {a0 : List Int} {b0 : List Int} (x5 : Int) (o : Int ⊕ (Bool ⊕ Unit)) (h : Dd a0 b0 x5 = some o) : vc Try.prog Qu (Dl [5, 0, 1] (Kq a0 b0) (Q3 a0 b0) o) (Kq a0 b0 x5) := by
 unfold Dd at h
 try dsimp only at h
 conv => whnf
 refine Len.map ?_
 conv => whnf
 refine Br.od h (fun p1 h => ?_) (fun p1 h => ?_)
 ·conv => whnf
  refine Len.map ?_
  conv => whnf
  refine Ask.o h fun p2 h => ?_
  conv => whnf
  refine Elem.o (by first | omega | (simp [Au] at *; omega)) ?_
  conv => whnf
  refine Len.map ?_
  conv => whnf
  refine Ask.o h fun p3 h => ?_
  conv => whnf
  refine Elem.o (by first | omega | (simp [Au] at *; omega)) ?_
  conv => whnf
  refine Br.on h (fun p4 h => ?_) (fun p4 h => ?_)
  ·conv => whnf
   refine Len.map ?_
   conv => whnf
   refine Ask.o h fun p5 h => ?_
   conv => whnf
   refine Elem.o (by first | omega | (simp [Au] at *; omega)) ?_
   conv => whnf
   refine Len.map ?_
   conv => whnf
   refine Ask.o h fun p6 h => ?_
   conv => whnf
   refine Elem.o (by first | omega | (simp [Au] at *; omega)) ?_
   conv => whnf
   cases h; exact ⟨rfl, rfl⟩
  conv => whnf
  refine Ask.o h fun p7 h => ?_
  conv => whnf
  cases h; exact ⟨rfl, rfl⟩
 conv => whnf
 cases h; exact ⟨rfl, rfl⟩
noncomputable def Is (a0 : (List Int)) (b0 : (List Int)) : Option Bool :=
 (Ap (Dd a0 b0) (0 : Int)).bind fun t => match t with
 | (.inl q8_4) => (some q8_4)
 | (.inr _) => (some false)
theorem Agh {a0 : (List Int)} {b0 : (List Int)} {v : Bool} (h : Is a0 b0 = some v) : Ret Try.prog Pp [(slr false 1 Af) a0, (slr false 1 Af) b0] (V.bool v) := by
 refine A7 Ae4 (Nat.le_of_ble_eq_true rfl) ?_
 unfold Is at h
 conv => whnf
 refine LoopQ.o [5, 0, 1] (Kq a0 b0) (Q3 a0 b0) h (fun s o h => Ze s o h) (by first | rfl | simp [restrict, look, Aa, V.fz, fzL, V.up, upL, Ab, Ac, Ad, slr]) (by rintro (_ | _) <;> rfl) ?_
 rintro (q8_4 | ⟨⟩) h
 ·try dsimp only at h
  conv => whnf
  cases h; exact (by first | rfl | simp only [Ag, Aa, V.fz, fzL, V.up, upL, Ab, Ac, Ad, slr] | simp [Ag, Aa, V.fz, fzL, V.up, upL, Ab, Ac, Ad, slr])
 try dsimp only at h
 conv => whnf
 cases h; exact (by first | rfl | simp only [Ag, Aa, V.fz, fzL, V.up, upL, Ab, Ac, Ad, slr] | simp [Ag, Aa, V.fz, fzL, V.up, upL, Ab, Ac, Ad, slr])
noncomputable def Df (list0 : List Int) (x0 : Int) : Int → Option (Int ⊕ (Unit ⊕ Unit)) := fun x9 =>
 if x9 < (↑list0.length : Int) then
 ask ((0 : Int) ≤ x9 ∧ x9 < (↑list0.length : Int)) <|
 if x0 = nth list0 x9.toNat then
 some (.inr (.inl ()))
 else
 ask (InI (x9 + (1 : Int))) <|
 some (.inl (x9 + (1 : Int)))
 else
 some (.inr (.inr ()))
def Ku (list0 : List Int) (x0 : Int) : Int → St := fun s => [(9, A.val (Af s)), (8, A.val (Af ((↑list0.length : Int)))), (7, A.val ((slr false 1 Af) (list0))), (1, A.val (Af (x0)))]
def Qp (_list0 : List Int) (_x0 : Int) : (Unit ⊕ Unit) → Tgt
 | (.inl _s) => (Ex.ret, [4], [(4, A.val (V.bool (false)))])
 | (.inr _s) => ((Ex.exit 0), [], [])
theorem Zk {list0 : List Int} {x0 : Int} (x9 : Int) (o : Int ⊕ (Unit ⊕ Unit)) (h : Df list0 x0 x9 = some o) : vc Try.prog P0 (Dl [9, 8, 7, 1] (Ku list0 x0) (Qp list0 x0) o) (Ku list0 x0 x9) := by
 unfold Df at h
 try dsimp only at h
 conv => whnf
 refine Br.od h (fun p1 h => ?_) (fun p1 h => ?_)
 ·conv => whnf
  refine Len.map ?_
  conv => whnf
  refine Ask.o h fun p2 h => ?_
  conv => whnf
  refine Elem.o (by first | omega | (simp [Au] at *; omega)) ?_
  conv => whnf
  refine Br.oe h (fun p3 h => ?_) (fun p3 h => ?_)
  ·conv => whnf
   cases h; exact ⟨rfl, rfl⟩
  conv => whnf
  refine Ask.o h fun p4 h => ?_
  conv => whnf
  cases h; exact ⟨rfl, rfl⟩
 conv => whnf
 cases h; exact ⟨rfl, rfl⟩
noncomputable def Im (list0 : (List Int)) (x0 : Int) : Option Bool :=
 (Ap (Df list0 x0) (0 : Int)).bind fun t => match t with
 | (.inl _) => (some false)
 | (.inr _) => (some true)
theorem Agq {list0 : (List Int)} {x0 : Int} {v : Bool} (h : Im list0 x0 = some v) : Ret Try.prog O5 [(slr false 1 Af) list0, Af x0] (V.bool v) := by
 refine A7 Afh (Nat.le_of_ble_eq_true rfl) ?_
 unfold Im at h
 conv => whnf
 refine Len.map ?_
 conv => whnf
 refine LoopQ.o [9, 8, 7, 1] (Ku list0 x0) (Qp list0 x0) h (fun s o h => Zk s o h) (by first | rfl | simp [restrict, look, Aa, V.fz, fzL, V.up, upL, Ab, Ac, Ad, slr]) (by rintro (_ | _) <;> rfl) ?_
 rintro (⟨⟩ | ⟨⟩) h
 ·try dsimp only at h
  conv => whnf
  cases h; exact (by first | rfl | simp only [Ag, Aa, V.fz, fzL, V.up, upL, Ab, Ac, Ad, slr] | simp [Ag, Aa, V.fz, fzL, V.up, upL, Ab, Ac, Ad, slr])
 try dsimp only at h
 conv => whnf
 cases h; exact (by first | rfl | simp only [Ag, Aa, V.fz, fzL, V.up, upL, Ab, Ac, Ad, slr] | simp [Ag, Aa, V.fz, fzL, V.up, upL, Ab, Ac, Ad, slr])
noncomputable def Dz (c0 : Sl1Cur) : Option (Int × Sl1Cur) :=
 ((if c0.at_ < (↑c0.code.length : Int) then
 ask ((0 : Int) ≤ c0.at_ ∧ c0.at_ < (↑c0.code.length : Int)) <|
 some (IntKind.i64.wrap (nth c0.code c0.at_.toNat))
 else
 some (0 : Int) : Option Int)).bind fun q3_3 =>
 ask (InI (c0.at_ + (1 : Int))) <|
 if c0.at_ + (1 : Int) ≤ (↑c0.code.length : Int) then
 some (q3_3, { code := c0.code, at_ := c0.at_ + (1 : Int), seed := IntKind.u64.wrap (IntKind.u64.wrap (IntKind.u64.wrap (c0.seed * (6364136223846793005 : Int)) + IntKind.u64.wrap q3_3) + (550289 : Int)) })
 else
 some (IntKind.i64.wrap (IntKind.u64.wrap (↑(BitVec.ofInt IntKind.u64.bits ((IntKind.u64.wrap (IntKind.u64.wrap (IntKind.u64.wrap (c0.seed * (6364136223846793005 : Int)) + IntKind.u64.wrap q3_3) + (550289 : Int))).fdiv ((2 : Int) ^ min (Int.toNat (40 : Int)) IntKind.u64.bits)) &&& BitVec.ofInt IntKind.u64.bits (255 : Int)).toNat : Int)), { code := c0.code, at_ := c0.at_ + (1 : Int), seed := IntKind.u64.wrap (IntKind.u64.wrap (IntKind.u64.wrap (c0.seed * (6364136223846793005 : Int)) + IntKind.u64.wrap q3_3) + (550289 : Int)) })
theorem Ox {c0 : Sl1Cur} {v : (Int × Sl1Cur)} (h : Dz c0 = some v) : Vm Try.prog G4 [(rP true (Aj false)) c0] (Af v.1) 0 ((rP true (Aj false)) v.2) := by
 refine N8 Yk (Nat.le_of_ble_eq_true rfl) ?_
 unfold Dz at h
 conv => whnf
 refine CutQ.o (fun t : Int => match t with | s => (Ex.normal, [3, 0, 62], [(3, A.val (Af s)), (0, A.ref 62 []), (62, A.val ((rP true (Aj false)) (c0)))])) h ?_ ?_
 ·intro t h
  conv => whnf
  refine Cells.lit rfl rfl ?_
  conv => whnf
  refine Cells.lit rfl rfl ?_
  conv => whnf
  refine Len.map ?_
  conv => whnf
  refine Br.od h (fun p1 h => ?_) (fun p1 h => ?_)
  ·conv => whnf
   refine Cells.lit rfl rfl ?_
   conv => whnf
   refine Cells.lit rfl rfl ?_
   conv => whnf
   refine Len.map ?_
   conv => whnf
   refine Ask.o h fun p2 h => ?_
   conv => whnf
   refine Elem.o (by first | omega | (simp [Au] at *; omega)) ?_
   conv => whnf
   cases h; exact ⟨rfl, rfl⟩
  conv => whnf
  cases h; exact ⟨rfl, rfl⟩
 rintro q3_3 h
 try dsimp only at h
 conv => whnf
 refine Cells.lit rfl rfl ?_
 conv => whnf
 refine Ask.o h fun p4 h => ?_
 conv => whnf
 refine SetKids.lit rfl ?_
 conv => whnf
 refine Cells.lit rfl rfl ?_
 conv => whnf
 refine SetKids.lit rfl ?_
 conv => whnf
 refine Cells.lit rfl rfl ?_
 conv => whnf
 refine Cells.lit rfl rfl ?_
 conv => whnf
 refine Len.map ?_
 conv => whnf
 refine Br.od h (fun p5 h => ?_) (fun p5 h => ?_)
 ·conv => whnf
  cases h; exact ⟨(by first | rfl | simp only [Ag, Aa, V.fz, fzL, V.up, upL, Ab, Ac, Ad, slr] | simp [Ag, Aa, V.fz, fzL, V.up, upL, Ab, Ac, Ad, slr]), (by first | rfl | simp only [Ag, Aa, V.fz, fzL, V.up, upL, Ab, Ac, Ad, slr] | simp [Ag, Aa, V.fz, fzL, V.up, upL, Ab, Ac, Ad, slr])⟩
 conv => whnf
 refine Cells.lit rfl rfl ?_
 conv => whnf
 cases h; exact ⟨(by first | rfl | simp only [Ag, Aa, V.fz, fzL, V.up, upL, Ab, Ac, Ad, slr] | simp [Ag, Aa, V.fz, fzL, V.up, upL, Ab, Ac, Ad, slr]), (by first | rfl | simp only [Ag, Aa, V.fz, fzL, V.up, upL, Ab, Ac, Ad, slr] | simp [Ag, Aa, V.fz, fzL, V.up, upL, Ab, Ac, Ad, slr])⟩
noncomputable def De (n0 : Int) : (Int × (List Int) × Int) → Option ((Int × (List Int) × Int) ⊕ (List Int)) := fun (x8, x7, x2) =>
 if x8 ≥ (0 : Int) then
 ask (n0 ≠ (0 : Int)) <|
 ask ((0 : Int) ≤ x8 ∧ x8 < (↑x7.length : Int)) <|
 ask (n0 ≠ (0 : Int) ∧ InI (x2.tdiv n0)) <|
 ask (InI (x8 - (1 : Int))) <|
 some (.inl (x8 - (1 : Int), x7.set x8.toNat (x2.tmod n0), x2.tdiv n0))
 else
 some (.inr x7)
def Kw (n0 : Int) : (Int × (List Int) × Int) → St := fun s => [(8, A.val (Af s.1)), (7, A.val ((slr true 1 Af) s.2.1)), (0, A.val (Af (n0))), (2, A.val (Af s.2.2))]
def Rd (_n0 : Int) : (List Int) → Tgt
 | s => ((Ex.exit 0), [7], [(7, A.val ((slr true 1 Af) s))])
theorem Z7 {n0 : Int} (s : (Int × (List Int) × Int)) (o : (Int × (List Int) × Int) ⊕ (List Int)) (h : De n0 s = some o) : vc Try.prog Qn (Dl [8, 7, 0, 2] (Kw n0) (Rd n0) o) (Kw n0 s) := by
 obtain ⟨x8, x7, x2⟩ := s
 unfold De at h
 try dsimp only at h
 conv => whnf
 refine Br.od h (fun p3 h => ?_) (fun p3 h => ?_)
 ·conv => whnf
  refine Ask.o h fun p4 h => ?_
  conv => whnf
  refine Len.map ?_
  conv => whnf
  refine Ask.o h fun p5 h => ?_
  conv => whnf
  refine SetKids.one (fun _ => ⟨rfl, rfl⟩) (x2.tmod n0) (by first | rfl | simp only [Aa, V.fz, fzL, V.up, upL, Ab, Ac, Ad, slr, List.cons_append, List.nil_append] | simp [Aa, V.fz, fzL, V.up, upL, Ab, Ac, Ad, slr]) (by first | omega | (simp [Au] at *; omega)) ?_
  conv => whnf
  refine Ask.o h fun p6 h => ?_
  conv => whnf
  refine Ask.o h fun p7 h => ?_
  conv => whnf
  cases h; exact ⟨rfl, rfl⟩
 conv => whnf
 cases h; exact ⟨rfl, rfl⟩
noncomputable def Ip (n0 : Int) (arity0 : Int) (at0 : Int) : Option (List Int) :=
 ask ((0 : Int) ≤ arity0 ∧ arity0 ≤ (↑LIM : Int)) <|
 ask (InI (arity0 - (1 : Int))) <|
 (Ap (De n0) (arity0 - (1 : Int), List.replicate arity0.toNat (0 : Int), at0)).bind fun q8_7 =>
 some q8_7
theorem Afr {n0 : Int} {arity0 : Int} {at0 : Int} {v : (List Int)} (h : Ip n0 arity0 at0 = some v) : Ret Try.prog Pn [Af n0, Af arity0, Af at0] ((slr true 1 Af) v) := by
 refine A7 Agl (Nat.le_of_ble_eq_true rfl) ?_
 unfold Ip at h
 conv => whnf
 refine Ask.o h fun p1 h => ?_
 conv => whnf
 refine MkQ.o Af ((0 : Int)) rfl ?_
 conv => whnf
 refine Ask.o h fun p2 h => ?_
 conv => whnf
 refine LoopQ.o [8, 7, 0, 2] (Kw n0) (Rd n0) h (fun s o h => Z7 s o h) (by first | rfl | simp [restrict, look, Aa, V.fz, fzL, V.up, upL, Ab, Ac, Ad, slr]) (fun _ => rfl) ?_
 rintro q8_7 h
 try dsimp only at h
 conv => whnf
 cases h; exact (by first | rfl | simp only [Ag, Aa, V.fz, fzL, V.up, upL, Ab, Ac, Ad, slr] | simp [Ag, Aa, V.fz, fzL, V.up, upL, Ab, Ac, Ad, slr])
noncomputable def Ci (list0 : List Int) : Int → Option (Int ⊕ (Unit ⊕ Unit)) := fun x3 =>
 if x3 < (↑list0.length : Int) then
 ask (InI (x3 - (1 : Int))) <|
 ask ((0 : Int) ≤ x3 - (1 : Int) ∧ x3 - (1 : Int) < (↑list0.length : Int)) <|
 ask ((0 : Int) ≤ x3 ∧ x3 < (↑list0.length : Int)) <|
 if nth list0 (x3 - (1 : Int)).toNat ≥ nth list0 x3.toNat then
 some (.inr (.inl ()))
 else
 ask (InI (x3 + (1 : Int))) <|
 some (.inl (x3 + (1 : Int)))
 else
 some (.inr (.inr ()))
def L5 (list0 : List Int) : Int → St := fun s => [(3, A.val (Af s)), (0, A.val ((slr false 1 Af) (list0)))]
def Sw (_list0 : List Int) : (Unit ⊕ Unit) → Tgt
 | (.inl _s) => (Ex.ret, [2], [(2, A.val (V.bool (false)))])
 | (.inr _s) => ((Ex.exit 0), [], [])
theorem Abr {list0 : List Int} (x3 : Int) (o : Int ⊕ (Unit ⊕ Unit)) (h : Ci list0 x3 = some o) : vc Try.prog Sm (Dl [3, 0] (L5 list0) (Sw list0) o) (L5 list0 x3) := by
 unfold Ci at h
 try dsimp only at h
 conv => whnf
 refine Len.map ?_
 conv => whnf
 refine Br.od h (fun p1 h => ?_) (fun p1 h => ?_)
 ·conv => whnf
  refine Ask.o h fun p2 h => ?_
  conv => whnf
  refine Len.map ?_
  conv => whnf
  refine Ask.o h fun p3 h => ?_
  conv => whnf
  refine Elem.o (by first | omega | (simp [Au] at *; omega)) ?_
  conv => whnf
  refine Len.map ?_
  conv => whnf
  refine Ask.o h fun p4 h => ?_
  conv => whnf
  refine Elem.o (by first | omega | (simp [Au] at *; omega)) ?_
  conv => whnf
  refine Br.od h (fun p5 h => ?_) (fun p5 h => ?_)
  ·conv => whnf
   cases h; exact ⟨rfl, rfl⟩
  conv => whnf
  refine Ask.o h fun p6 h => ?_
  conv => whnf
  cases h; exact ⟨rfl, rfl⟩
 conv => whnf
 cases h; exact ⟨rfl, rfl⟩
noncomputable def J3 (list0 : (List Int)) : Option Bool :=
 (Ap (Ci list0) (1 : Int)).bind fun t => match t with
 | (.inl _) => (some false)
 | (.inr _) => (some true)
theorem Ai7 {list0 : (List Int)} {v : Bool} (h : J3 list0 = some v) : Ret Try.prog R7 [(slr false 1 Af) list0] (V.bool v) := by
 refine A7 Aj5 (Nat.le_of_ble_eq_true rfl) ?_
 unfold J3 at h
 conv => whnf
 refine LoopQ.o [3, 0] (L5 list0) (Sw list0) h (fun s o h => Abr s o h) (by first | rfl | simp [restrict, look, Aa, V.fz, fzL, V.up, upL, Ab, Ac, Ad, slr]) (by rintro (_ | _) <;> rfl) ?_
 rintro (⟨⟩ | ⟨⟩) h
 ·try dsimp only at h
  conv => whnf
  cases h; exact (by first | rfl | simp only [Ag, Aa, V.fz, fzL, V.up, upL, Ab, Ac, Ad, slr] | simp [Ag, Aa, V.fz, fzL, V.up, upL, Ab, Ac, Ad, slr])
 try dsimp only at h
 conv => whnf
 cases h; exact (by first | rfl | simp only [Ag, Aa, V.fz, fzL, V.up, upL, Ab, Ac, Ad, slr] | simp [Ag, Aa, V.fz, fzL, V.up, upL, Ab, Ac, Ad, slr])
noncomputable def Dc (a0 : List Int) (b0 : List Int) : Int → Option (Int ⊕ (Unit ⊕ Unit)) := fun x5 =>
 if x5 < (↑a0.length : Int) then
 ask ((0 : Int) ≤ x5 ∧ x5 < (↑a0.length : Int)) <|
 ask ((0 : Int) ≤ x5 ∧ x5 < (↑b0.length : Int)) <|
 if nth a0 x5.toNat ≠ nth b0 x5.toNat then
 some (.inr (.inl ()))
 else
 ask (InI (x5 + (1 : Int))) <|
 some (.inl (x5 + (1 : Int)))
 else
 some (.inr (.inr ()))
def Kc (a0 : List Int) (b0 : List Int) : Int → St := fun s => [(5, A.val (Af s)), (0, A.val ((slr false 1 Af) (a0))), (1, A.val ((slr false 1 Af) (b0)))]
def Rb (_a0 : List Int) (_b0 : List Int) : (Unit ⊕ Unit) → Tgt
 | (.inl _s) => (Ex.ret, [4], [(4, A.val (V.bool (false)))])
 | (.inr _s) => ((Ex.exit 0), [], [])
theorem Aac {a0 : List Int} {b0 : List Int} (x5 : Int) (o : Int ⊕ (Unit ⊕ Unit)) (h : Dc a0 b0 x5 = some o) : vc Try.prog P3 (Dl [5, 0, 1] (Kc a0 b0) (Rb a0 b0) o) (Kc a0 b0 x5) := by
 unfold Dc at h
 try dsimp only at h
 conv => whnf
 refine Len.map ?_
 conv => whnf
 refine Br.od h (fun p2 h => ?_) (fun p2 h => ?_)
 ·conv => whnf
  refine Len.map ?_
  conv => whnf
  refine Ask.o h fun p3 h => ?_
  conv => whnf
  refine Elem.o (by first | omega | (simp [Au] at *; omega)) ?_
  conv => whnf
  refine Len.map ?_
  conv => whnf
  refine Ask.o h fun p4 h => ?_
  conv => whnf
  refine Elem.o (by first | omega | (simp [Au] at *; omega)) ?_
  conv => whnf
  refine Br.on h (fun p5 h => ?_) (fun p5 h => ?_)
  ·conv => whnf
   cases h; exact ⟨rfl, rfl⟩
  conv => whnf
  refine Ask.o h fun p6 h => ?_
  conv => whnf
  cases h; exact ⟨rfl, rfl⟩
 conv => whnf
 cases h; exact ⟨rfl, rfl⟩
noncomputable def Iv (a0 : (List Int)) (b0 : (List Int)) : Option Bool :=
 if (↑a0.length : Int) ≠ (↑b0.length : Int) then
 some false
 else
 (Ap (Dc a0 b0) (0 : Int)).bind fun t => match t with
 | (.inl _) => (some false)
 | (.inr _) => (some true)
theorem Af7 {a0 : (List Int)} {b0 : (List Int)} {v : Bool} (h : Iv a0 b0 = some v) : Ret Try.prog O3 [(slr false 1 Af) a0, (slr false 1 Af) b0] (V.bool v) := by
 refine A7 Af1 (Nat.le_of_ble_eq_true rfl) ?_
 unfold Iv at h
 conv => whnf
 refine Len.map ?_
 conv => whnf
 refine Len.map ?_
 conv => whnf
 refine Br.on h (fun p1 h => ?_) (fun p1 h => ?_)
 ·conv => whnf
  cases h; exact (by first | rfl | simp only [Ag, Aa, V.fz, fzL, V.up, upL, Ab, Ac, Ad, slr] | simp [Ag, Aa, V.fz, fzL, V.up, upL, Ab, Ac, Ad, slr])
 conv => whnf
 refine LoopQ.o [5, 0, 1] (Kc a0 b0) (Rb a0 b0) h (fun s o h => Aac s o h) (by first | rfl | simp [restrict, look, Aa, V.fz, fzL, V.up, upL, Ab, Ac, Ad, slr]) (by rintro (_ | _) <;> rfl) ?_
 rintro (⟨⟩ | ⟨⟩) h
 ·try dsimp only at h
  conv => whnf
  cases h; exact (by first | rfl | simp only [Ag, Aa, V.fz, fzL, V.up, upL, Ab, Ac, Ad, slr] | simp [Ag, Aa, V.fz, fzL, V.up, upL, Ab, Ac, Ad, slr])
 try dsimp only at h
 conv => whnf
 cases h; exact (by first | rfl | simp only [Ag, Aa, V.fz, fzL, V.up, upL, Ab, Ac, Ad, slr] | simp [Ag, Aa, V.fz, fzL, V.up, upL, Ab, Ac, Ad, slr])
noncomputable def B6 (s0 : List Int) (t0 : List Int) : Int → Option (Int ⊕ (Int ⊕ Unit)) := fun x5 =>
 ((if x5 < (↑s0.length : Int) then
 if x5 < (↑t0.length : Int) then
 some (.inl ())
 else
 some (.inr ())
 else
 some (.inr ()) : Option (Unit ⊕ Unit))).bind fun t => match t with
 | (.inl _) => (ask ((0 : Int) ≤ x5 ∧ x5 < (↑s0.length : Int)) <|
 ask ((0 : Int) ≤ x5 ∧ x5 < (↑t0.length : Int)) <|
 if nth s0 x5.toNat ≠ nth t0 x5.toNat then
 ask ((0 : Int) ≤ x5 ∧ x5 < (↑s0.length : Int)) <|
 ask ((0 : Int) ≤ x5 ∧ x5 < (↑t0.length : Int)) <|
 if nth s0 x5.toNat < nth t0 x5.toNat then
 some (.inr (.inl (-1 : Int)))
 else
 some (.inr (.inl (1 : Int)))
 else
 ask (InI (x5 + (1 : Int))) <|
 some (.inl (x5 + (1 : Int))))
 | (.inr _) => (some (.inr (.inr ())))
def Gc (s0 : List Int) (t0 : List Int) : Int → St := fun s => [(5, A.val (Af s)), (0, A.val ((slr false 1 Af) (s0))), (1, A.val ((slr false 1 Af) (t0)))]
def Ju (s0 : List Int) (t0 : List Int) : (Int ⊕ Unit) → Tgt
 | (.inl s) => (Ex.ret, [4], [(4, A.val (Af s))])
 | (.inr _s) => ((Ex.exit 0), [0, 1], [(0, A.val ((slr false 1 Af) (s0))), (1, A.val ((slr false 1 Af) (t0)))])
theorem Sd {s0 : List Int} {t0 : List Int} (x5 : Int) (o : Int ⊕ (Int ⊕ Unit)) (h : B6 s0 t0 x5 = some o) : vc Try.prog J4 (Dl [5, 0, 1] (Gc s0 t0) (Ju s0 t0) o) (Gc s0 t0 x5) := by
 unfold B6 at h
 try dsimp only at h
 conv => whnf
 refine CutQ.o (fun t : (Unit ⊕ Unit) => match t with | (.inl s) => (Ex.normal, [5, 0, 1], [(5, A.val (Af (x5))), (0, A.val ((slr false 1 Af) (s0))), (1, A.val ((slr false 1 Af) (t0)))]) | (.inr s) => ((Ex.exit 0), [0, 1], [(0, A.val ((slr false 1 Af) (s0))), (1, A.val ((slr false 1 Af) (t0)))])) h ?_ ?_
 ·intro t h
  conv => whnf
  refine Len.map ?_
  conv => whnf
  refine Br.od h (fun p1 h => ?_) (fun p1 h => ?_)
  ·conv => whnf
   refine Br.yes ?_
   conv => whnf
   refine Br.yes ?_
   conv => whnf
   refine Len.map ?_
   conv => whnf
   refine Br.yes ?_
   conv => whnf
   refine Br.yes ?_
   conv => whnf
   refine Br.od h (fun p2 h => ?_) (fun p2 h => ?_)
   ·conv => whnf
    cases h; exact ⟨rfl, rfl⟩
   conv => whnf
   cases h; exact ⟨rfl, rfl⟩
  conv => whnf
  refine Br.no ?_
  conv => whnf
  refine Br.no ?_
  conv => whnf
  refine Br.no ?_
  conv => whnf
  refine Br.no ?_
  conv => whnf
  refine Br.no ?_
  conv => whnf
  cases h; exact ⟨rfl, rfl⟩
 rintro (⟨⟩ | ⟨⟩) h
 ·try dsimp only at h
  conv => whnf
  refine Len.map ?_
  conv => whnf
  refine Ask.o h fun p4 h => ?_
  conv => whnf
  refine Elem.o (by first | omega | (simp [Au] at *; omega)) ?_
  conv => whnf
  refine Len.map ?_
  conv => whnf
  refine Ask.o h fun p5 h => ?_
  conv => whnf
  refine Elem.o (by first | omega | (simp [Au] at *; omega)) ?_
  conv => whnf
  refine Br.on h (fun p6 h => ?_) (fun p6 h => ?_)
  ·conv => whnf
   refine Len.map ?_
   conv => whnf
   refine Ask.o h fun p7 h => ?_
   conv => whnf
   refine Elem.o (by first | omega | (simp [Au] at *; omega)) ?_
   conv => whnf
   refine Len.map ?_
   conv => whnf
   refine Ask.o h fun p8 h => ?_
   conv => whnf
   refine Elem.o (by first | omega | (simp [Au] at *; omega)) ?_
   conv => whnf
   refine Br.od h (fun p9 h => ?_) (fun p9 h => ?_)
   ·conv => whnf
    cases h; exact ⟨rfl, rfl⟩
   conv => whnf
   cases h; exact ⟨rfl, rfl⟩
  conv => whnf
  refine Ask.o h fun p10 h => ?_
  conv => whnf
  cases h; exact ⟨rfl, rfl⟩
 try dsimp only at h
 conv => whnf
 cases h; exact ⟨rfl, rfl⟩
noncomputable def D6 (s0 : (List Int)) (t0 : (List Int)) : Option Int :=
 (Ap (B6 s0 t0) (0 : Int)).bind fun t => match t with
 | (.inl q11_4) => (some q11_4)
 | (.inr _) => (if (↑s0.length : Int) < (↑t0.length : Int) then
 some (-1 : Int)
 else
 if (↑s0.length : Int) > (↑t0.length : Int) then
 some (1 : Int)
 else
 some (0 : Int))
theorem Vn {s0 : (List Int)} {t0 : (List Int)} {v : Int} (h : D6 s0 t0 = some v) : Ret Try.prog Ih [(slr false 1 Af) s0, (slr false 1 Af) t0] (Af v) := by
 refine A7 Vi (Nat.le_of_ble_eq_true rfl) ?_
 unfold D6 at h
 conv => whnf
 refine LoopQ.o [5, 0, 1] (Gc s0 t0) (Ju s0 t0) h (fun s o h => Sd s o h) (by first | rfl | simp [restrict, look, Aa, V.fz, fzL, V.up, upL, Ab, Ac, Ad, slr]) (by rintro (_ | _) <;> rfl) ?_
 rintro (q11_4 | ⟨⟩) h
 ·try dsimp only at h
  conv => whnf
  cases h; exact (by first | rfl | simp only [Ag, Aa, V.fz, fzL, V.up, upL, Ab, Ac, Ad, slr] | simp [Ag, Aa, V.fz, fzL, V.up, upL, Ab, Ac, Ad, slr])
 try dsimp only at h
 conv => whnf
 refine Len.map ?_
 conv => whnf
 refine Len.map ?_
 conv => whnf
 refine Br.od h (fun p12 h => ?_) (fun p12 h => ?_)
 ·conv => whnf
  cases h; exact (by first | rfl | simp only [Ag, Aa, V.fz, fzL, V.up, upL, Ab, Ac, Ad, slr] | simp [Ag, Aa, V.fz, fzL, V.up, upL, Ab, Ac, Ad, slr])
 conv => whnf
 refine Len.map ?_
 conv => whnf
 refine Len.map ?_
 conv => whnf
 refine Br.od h (fun p13 h => ?_) (fun p13 h => ?_)
 ·conv => whnf
  cases h; exact (by first | rfl | simp only [Ag, Aa, V.fz, fzL, V.up, upL, Ab, Ac, Ad, slr] | simp [Ag, Aa, V.fz, fzL, V.up, upL, Ab, Ac, Ad, slr])
 conv => whnf
 cases h; exact (by first | rfl | simp only [Ag, Aa, V.fz, fzL, V.up, upL, Ab, Ac, Ad, slr] | simp [Ag, Aa, V.fz, fzL, V.up, upL, Ab, Ac, Ad, slr])
noncomputable def En (s0 : ByteArray) : (Int × SOp) → Option ((Int × SOp) ⊕ SOp) := fun (x4, x3) =>
 if x4 < (↑s0.size : Int) then
 ask ((0 : Int) ≤ x4 ∧ x4 < (↑s0.size : Int)) <|
 ask ((x3.Table).length + ([IntKind.i64.wrap (IntKind.u8.wrap (Aam s0 x4 - (48 : Int)))]).length ≤ LIM) <|
 ask (InI (x4 + (1 : Int))) <|
 some (.inl (x4 + (1 : Int), { Arity := x3.Arity, Table := x3.Table ++ [IntKind.i64.wrap (IntKind.u8.wrap (Aam s0 x4 - (48 : Int)))] }))
 else
 some (.inr x3)
def Jb (s0 : ByteArray) : (Int × SOp) → St := fun s => [(4, A.val (Af s.1)), (3, A.val ((rP true (A4 true)) s.2)), (2, A.val ((rP true (A4 true)) ({ Arity := (0 : Int), Table := A9 Int }))), (0, A.val (V.str (s0)))]
def Nv (_s0 : ByteArray) : SOp → Tgt
 | s => ((Ex.exit 0), [3, 2], [(3, A.val ((rP true (A4 true)) s)), (2, A.val ((rP true (A4 true)) ({ Arity := (0 : Int), Table := A9 Int })))])
theorem Wo {s0 : ByteArray} (s : (Int × SOp)) (o : (Int × SOp) ⊕ SOp) (h : En s0 s = some o) : vc Try.prog N2 (Dl [4, 3, 2, 0] (Jb s0) (Nv s0) o) (Jb s0 s) := by
 obtain ⟨x4, x3⟩ := s
 unfold En at h
 try dsimp only at h
 conv => whnf
 refine Br.od h (fun p1 h => ?_) (fun p1 h => ?_)
 ·conv => whnf
  refine Cells.lit rfl rfl ?_
  conv => whnf
  refine Ask.o h fun p2 h => ?_
  conv => whnf
  refine BslQ.o Af ([IntKind.i64.wrap (IntKind.u8.wrap (Aam s0 x4 - (48 : Int)))]) (by exact fun _ => ⟨rfl, rfl⟩) (by first | rfl | simp only [Aa, V.fz, fzL, V.up, upL, Ab, Ac, Ad, slr, List.cons_append, List.nil_append] | simp [Aa, V.fz, fzL, V.up, upL, Ab, Ac, Ad, slr]) ?_
  conv => whnf
  refine NoOwn.o (fun _ => rfl) ?_
  conv => whnf
  refine Kid.lit rfl rfl ?_
  conv => whnf
  refine Kid.lit rfl rfl ?_
  conv => whnf
  refine SetKids.lit rfl ?_
  conv => whnf
  refine AppQ.o (m := 1) Af (by exact fun _ => ⟨rfl, rfl⟩) (x3.Table) ([IntKind.i64.wrap (IntKind.u8.wrap (Aam s0 x4 - (48 : Int)))]) (by first | rfl | simp only [Aa, V.fz, fzL, V.up, upL, Ab, Ac, Ad, slr, List.cons_append, List.nil_append] | simp [Aa, V.fz, fzL, V.up, upL, Ab, Ac, Ad, slr]) (by first | rfl | simp only [Aa, V.fz, fzL, V.up, upL, Ab, Ac, Ad, slr, List.cons_append, List.nil_append] | simp [Aa, V.fz, fzL, V.up, upL, Ab, Ac, Ad, slr]) h fun h => ?_
  conv => whnf
  refine SetKids.lit rfl ?_
  conv => whnf
  refine Ask.o h fun p3 h => ?_
  conv => whnf
  cases h; exact ⟨rfl, rfl⟩
 conv => whnf
 cases h; exact ⟨rfl, rfl⟩
noncomputable def Aw (s0 : ByteArray) : Option SOp :=
 (Ap (En s0) ((0 : Int), { Arity := (2 : Int), Table := A9 Int })).bind fun q4_3 =>
 some q4_3
theorem Be {s0 : ByteArray} {v : SOp} (h : Aw s0 = some v) : Ret Try.prog A8 [V.str s0] ((A4 true) v) := by
 refine A7 Abs (Nat.le_of_ble_eq_true rfl) ?_
 unfold Aw at h
 conv => whnf
 refine SetKids.lit rfl ?_
 conv => whnf
 refine LoopQ.o [4, 3, 2, 0] (Jb s0) (Nv s0) h (fun s o h => Wo s o h) (by first | rfl | simp [restrict, look, Aa, V.fz, fzL, V.up, upL, Ab, Ac, Ad, slr]) (fun _ => rfl) ?_
 rintro q4_3 h
 try dsimp only at h
 conv => whnf
 refine Cells.lit rfl rfl ?_
 conv => whnf
 refine SetKids.lit rfl ?_
 conv => whnf
 cases h; exact (by first | rfl | simp only [Ag, Aa, V.fz, fzL, V.up, upL, Ab, Ac, Ad, slr] | simp [Ag, Aa, V.fz, fzL, V.up, upL, Ab, Ac, Ad, slr])
noncomputable def Et (n0 : Int) : (Int × SOp) → Option ((Int × SOp) ⊕ SOp) := fun (x4, x3) =>
 ask (InI (n0 * n0)) <|
 ask (InI (n0 * n0 * n0)) <|
 if x4 < n0 * n0 * n0 then
 ask (InI (n0 * n0)) <|
 ask (n0 * n0 ≠ (0 : Int) ∧ InI (x4.tdiv (n0 * n0))) <|
 ask (InI (x4.tdiv (n0 * n0) + n0)) <|
 ask (n0 ≠ (0 : Int) ∧ InI (x4.tdiv n0)) <|
 ask (n0 ≠ (0 : Int)) <|
 ask (InI (x4.tdiv (n0 * n0) + n0 - (x4.tdiv n0).tmod n0)) <|
 ask (n0 ≠ (0 : Int)) <|
 ask (InI (x4.tdiv (n0 * n0) + n0 - (x4.tdiv n0).tmod n0 + x4.tmod n0)) <|
 ask (n0 ≠ (0 : Int)) <|
 ask ((x3.Table).length + ([(x4.tdiv (n0 * n0) + n0 - (x4.tdiv n0).tmod n0 + x4.tmod n0).tmod n0]).length ≤ LIM) <|
 ask (InI (x4 + (1 : Int))) <|
 some (.inl (x4 + (1 : Int), { Arity := x3.Arity, Table := x3.Table ++ [(x4.tdiv (n0 * n0) + n0 - (x4.tdiv n0).tmod n0 + x4.tmod n0).tmod n0] }))
 else
 some (.inr x3)
def I4 (n0 : Int) : (Int × SOp) → St := fun s => [(4, A.val (Af s.1)), (3, A.val ((rP true (A4 true)) s.2)), (2, A.val ((rP true (A4 true)) ({ Arity := (0 : Int), Table := A9 Int }))), (0, A.val (Af (n0)))]
def Nx (_n0 : Int) : SOp → Tgt
 | s => ((Ex.exit 0), [3, 2], [(3, A.val ((rP true (A4 true)) s)), (2, A.val ((rP true (A4 true)) ({ Arity := (0 : Int), Table := A9 Int })))])
theorem Ww {n0 : Int} (s : (Int × SOp)) (o : (Int × SOp) ⊕ SOp) (h : Et n0 s = some o) : vc Try.prog Nw (Dl [4, 3, 2, 0] (I4 n0) (Nx n0) o) (I4 n0 s) := by
 obtain ⟨x4, x3⟩ := s
 unfold Et at h
 try dsimp only at h
 conv => whnf
 refine Ask.o h fun p1 h => ?_
 conv => whnf
 refine Ask.o h fun p2 h => ?_
 conv => whnf
 refine Br.od h (fun p3 h => ?_) (fun p3 h => ?_)
 ·conv => whnf
  refine Cells.lit rfl rfl ?_
  conv => whnf
  refine Ask.o h fun p4 h => ?_
  conv => whnf
  refine Ask.o h fun p5 h => ?_
  conv => whnf
  refine Ask.o h fun p6 h => ?_
  conv => whnf
  refine Ask.o h fun p7 h => ?_
  conv => whnf
  refine Ask.o h fun p8 h => ?_
  conv => whnf
  refine Ask.o h fun p9 h => ?_
  conv => whnf
  refine Ask.o h fun p10 h => ?_
  conv => whnf
  refine Ask.o h fun p11 h => ?_
  conv => whnf
  refine Ask.o h fun p12 h => ?_
  conv => whnf
  refine BslQ.o Af ([(x4.tdiv (n0 * n0) + n0 - (x4.tdiv n0).tmod n0 + x4.tmod n0).tmod n0]) (by exact fun _ => ⟨rfl, rfl⟩) (by first | rfl | simp only [Aa, V.fz, fzL, V.up, upL, Ab, Ac, Ad, slr, List.cons_append, List.nil_append] | simp [Aa, V.fz, fzL, V.up, upL, Ab, Ac, Ad, slr]) ?_
  conv => whnf
  refine NoOwn.o (fun _ => rfl) ?_
  conv => whnf
  refine Kid.lit rfl rfl ?_
  conv => whnf
  refine Kid.lit rfl rfl ?_
  conv => whnf
  refine SetKids.lit rfl ?_
  conv => whnf
  refine AppQ.o (m := 1) Af (by exact fun _ => ⟨rfl, rfl⟩) (x3.Table) ([(x4.tdiv (n0 * n0) + n0 - (x4.tdiv n0).tmod n0 + x4.tmod n0).tmod n0]) (by first | rfl | simp only [Aa, V.fz, fzL, V.up, upL, Ab, Ac, Ad, slr, List.cons_append, List.nil_append] | simp [Aa, V.fz, fzL, V.up, upL, Ab, Ac, Ad, slr]) (by first | rfl | simp only [Aa, V.fz, fzL, V.up, upL, Ab, Ac, Ad, slr, List.cons_append, List.nil_append] | simp [Aa, V.fz, fzL, V.up, upL, Ab, Ac, Ad, slr]) h fun h => ?_
  conv => whnf
  refine SetKids.lit rfl ?_
  conv => whnf
  refine Ask.o h fun p13 h => ?_
  conv => whnf
  cases h; exact ⟨rfl, rfl⟩
 conv => whnf
 cases h; exact ⟨rfl, rfl⟩
noncomputable def E6 (n0 : Int) : Option SOp :=
 (Ap (Et n0) ((0 : Int), { Arity := (3 : Int), Table := A9 Int })).bind fun q14_3 =>
 some q14_3
theorem Sr {n0 : Int} {v : SOp} (h : E6 n0 = some v) : Ret Try.prog I2 [Af n0] ((A4 true) v) := by
 refine A7 Abu (Nat.le_of_ble_eq_true rfl) ?_
 unfold E6 at h
 conv => whnf
 refine SetKids.lit rfl ?_
 conv => whnf
 refine LoopQ.o [4, 3, 2, 0] (I4 n0) (Nx n0) h (fun s o h => Ww s o h) (by first | rfl | simp [restrict, look, Aa, V.fz, fzL, V.up, upL, Ab, Ac, Ad, slr]) (fun _ => rfl) ?_
 rintro q14_3 h
 try dsimp only at h
 conv => whnf
 refine Cells.lit rfl rfl ?_
 conv => whnf
 refine SetKids.lit rfl ?_
 conv => whnf
 cases h; exact (by first | rfl | simp only [Ag, Aa, V.fz, fzL, V.up, upL, Ab, Ac, Ad, slr] | simp [Ag, Aa, V.fz, fzL, V.up, upL, Ab, Ac, Ad, slr])
noncomputable def D2 (n0 : Int) : (Int × Int) → Option ((Int × Int) ⊕ Int) := fun (x5, x1) =>
 if x1 > (0 : Int) then
 ask (InI (x5 * n0)) <|
 ask (InI (x1 - (1 : Int))) <|
 some (.inl (x5 * n0, x1 - (1 : Int)))
 else
 some (.inr x5)
def Mj (n0 : Int) : (Int × Int) → St := fun s => [(5, A.val (Af s.1)), (0, A.val (Af (n0))), (1, A.val (Af s.2))]
def Ss (_n0 : Int) : Int → Tgt
 | s => ((Ex.exit 0), [5], [(5, A.val (Af s))])
theorem Aa5 {n0 : Int} (s : (Int × Int)) (o : (Int × Int) ⊕ Int) (h : D2 n0 s = some o) : vc Try.prog S7 (Dl [5, 0, 1] (Mj n0) (Ss n0) o) (Mj n0 s) := by
 obtain ⟨x5, x1⟩ := s
 unfold D2 at h
 try dsimp only at h
 conv => whnf
 refine Br.od h (fun p1 h => ?_) (fun p1 h => ?_)
 ·conv => whnf
  refine Ask.o h fun p2 h => ?_
  conv => whnf
  refine Ask.o h fun p3 h => ?_
  conv => whnf
  cases h; exact ⟨rfl, rfl⟩
 conv => whnf
 cases h; exact ⟨rfl, rfl⟩
noncomputable def H5 (n0 : Int) (k0 : Int) : Option Int :=
 (Ap (D2 n0) ((1 : Int), k0)).bind fun q4_5 =>
 some q4_5
theorem Ajj {n0 : Int} {k0 : Int} {v : Int} (h : H5 n0 k0 = some v) : Ret Try.prog R5 [Af n0, Af k0] (Af v) := by
 refine A7 Ah8 (Nat.le_of_ble_eq_true rfl) ?_
 unfold H5 at h
 conv => whnf
 refine LoopQ.o [5, 0, 1] (Mj n0) (Ss n0) h (fun s o h => Aa5 s o h) (by first | rfl | simp [restrict, look, Aa, V.fz, fzL, V.up, upL, Ab, Ac, Ad, slr]) (fun _ => rfl) ?_
 rintro q4_5 h
 try dsimp only at h
 conv => whnf
 cases h; exact (by first | rfl | simp only [Ag, Aa, V.fz, fzL, V.up, upL, Ab, Ac, Ad, slr] | simp [Ag, Aa, V.fz, fzL, V.up, upL, Ab, Ac, Ad, slr])
noncomputable def Dk (a0 : List (List Int)) (b0 : List (List Int)) : Int → Option (Int ⊕ (Unit ⊕ Unit)) := fun x5 =>
 if x5 < (↑a0.length : Int) then
 ask ((0 : Int) ≤ x5 ∧ x5 < (↑a0.length : Int)) <|
 ask ((0 : Int) ≤ x5 ∧ x5 < (↑b0.length : Int)) <|
 (Bw (nth a0 x5.toNat) (nth b0 x5.toNat)).bind fun r5 =>
 if (r5) = true then
 ask (InI (x5 + (1 : Int))) <|
 some (.inl (x5 + (1 : Int)))
 else
 some (.inr (.inl ()))
 else
 some (.inr (.inr ()))
def Kn (a0 : List (List Int)) (b0 : List (List Int)) : Int → St := fun s => [(5, A.val (Af s)), (0, A.val ((slr false 1 (slr false 1 Af)) (a0))), (1, A.val ((slr false 1 (slr false 1 Af)) (b0)))]
def Q4 (_a0 : List (List Int)) (_b0 : List (List Int)) : (Unit ⊕ Unit) → Tgt
 | (.inl _s) => (Ex.ret, [4], [(4, A.val (V.bool (false)))])
 | (.inr _s) => ((Ex.exit 0), [], [])
theorem Y5 {a0 : List (List Int)} {b0 : List (List Int)} (x5 : Int) (o : Int ⊕ (Unit ⊕ Unit)) (h : Dk a0 b0 x5 = some o) : vc Try.prog Q6 (Dl [5, 0, 1] (Kn a0 b0) (Q4 a0 b0) o) (Kn a0 b0 x5) := by
 unfold Dk at h
 try dsimp only at h
 conv => whnf
 refine Len.map ?_
 conv => whnf
 refine Br.od h (fun p2 h => ?_) (fun p2 h => ?_)
 ·conv => whnf
  refine Len.map ?_
  conv => whnf
  refine Ask.o h fun p3 h => ?_
  conv => whnf
  refine Elem.o (by first | omega | (simp [Au] at *; omega)) ?_
  conv => whnf
  refine Len.map ?_
  conv => whnf
  refine Ask.o h fun p4 h => ?_
  conv => whnf
  refine Elem.o (by first | omega | (simp [Au] at *; omega)) ?_
  conv => whnf
  refine CallQ.o V.bool (by first | rfl | simp only [Aa, V.fz, fzL, V.up, upL, Ab, Ac, Ad, slr, List.cons_append, List.nil_append] | simp [Aa, V.fz, fzL, V.up, upL, Ab, Ac, Ad, slr]) h (fun r h => Hz h) (fun r5 h => ?_)
  conv => whnf
  refine Br.flip ?_
  conv => whnf
  refine Br.ob h (fun p6 h => ?_) (fun p6 h => ?_)
  ·conv => whnf
   refine Ask.o h fun p7 h => ?_
   conv => whnf
   cases h; exact ⟨rfl, rfl⟩
  conv => whnf
  cases h; exact ⟨rfl, rfl⟩
 conv => whnf
 cases h; exact ⟨rfl, rfl⟩
noncomputable def Dn (a0 : (List (List Int))) (b0 : (List (List Int))) : Option Bool :=
 if (↑a0.length : Int) ≠ (↑b0.length : Int) then
 some false
 else
 (Ap (Dk a0 b0) (0 : Int)).bind fun t => match t with
 | (.inl _) => (some false)
 | (.inr _) => (some true)
theorem V5 {a0 : (List (List Int))} {b0 : (List (List Int))} {v : Bool} (h : Dn a0 b0 = some v) : Ret Try.prog La [(slr false 1 (slr false 1 Af)) a0, (slr false 1 (slr false 1 Af)) b0] (V.bool v) := by
 refine A7 Agb (Nat.le_of_ble_eq_true rfl) ?_
 unfold Dn at h
 conv => whnf
 refine Len.map ?_
 conv => whnf
 refine Len.map ?_
 conv => whnf
 refine Br.on h (fun p1 h => ?_) (fun p1 h => ?_)
 ·conv => whnf
  cases h; exact (by first | rfl | simp only [Ag, Aa, V.fz, fzL, V.up, upL, Ab, Ac, Ad, slr] | simp [Ag, Aa, V.fz, fzL, V.up, upL, Ab, Ac, Ad, slr])
 conv => whnf
 refine LoopQ.o [5, 0, 1] (Kn a0 b0) (Q4 a0 b0) h (fun s o h => Y5 s o h) (by first | rfl | simp [restrict, look, Aa, V.fz, fzL, V.up, upL, Ab, Ac, Ad, slr]) (by rintro (_ | _) <;> rfl) ?_
 rintro (⟨⟩ | ⟨⟩) h
 ·try dsimp only at h
  conv => whnf
  cases h; exact (by first | rfl | simp only [Ag, Aa, V.fz, fzL, V.up, upL, Ab, Ac, Ad, slr] | simp [Ag, Aa, V.fz, fzL, V.up, upL, Ab, Ac, Ad, slr])
 try dsimp only at h
 conv => whnf
 cases h; exact (by first | rfl | simp only [Ag, Aa, V.fz, fzL, V.up, upL, Ab, Ac, Ad, slr] | simp [Ag, Aa, V.fz, fzL, V.up, upL, Ab, Ac, Ad, slr])
noncomputable def Bq (a0 : List Int) (b0 : List Int) : Int → Option (Int ⊕ (Unit ⊕ Unit)) := fun x5 =>
 if x5 < (↑a0.length : Int) then
 ask ((0 : Int) ≤ x5 ∧ x5 < (↑a0.length : Int)) <|
 (L0 (b0) (nth a0 x5.toNat)).bind fun r3 =>
 if (r3) = true then
 ask (InI (x5 + (1 : Int))) <|
 some (.inl (x5 + (1 : Int)))
 else
 some (.inr (.inl ()))
 else
 some (.inr (.inr ()))
def J2 (a0 : List Int) (b0 : List Int) : Int → St := fun s => [(5, A.val (Af s)), (0, A.val ((slr false 1 Af) (a0))), (1, A.val ((slr false 1 Af) (b0)))]
def Ow (_a0 : List Int) (_b0 : List Int) : (Unit ⊕ Unit) → Tgt
 | (.inl _s) => (Ex.ret, [4], [(4, A.val (V.bool (false)))])
 | (.inr _s) => ((Ex.exit 0), [], [])
theorem Yq {a0 : List Int} {b0 : List Int} (x5 : Int) (o : Int ⊕ (Unit ⊕ Unit)) (h : Bq a0 b0 x5 = some o) : vc Try.prog Ol (Dl [5, 0, 1] (J2 a0 b0) (Ow a0 b0) o) (J2 a0 b0 x5) := by
 unfold Bq at h
 try dsimp only at h
 conv => whnf
 refine Len.map ?_
 conv => whnf
 refine Br.od h (fun p1 h => ?_) (fun p1 h => ?_)
 ·conv => whnf
  refine Len.map ?_
  conv => whnf
  refine Ask.o h fun p2 h => ?_
  conv => whnf
  refine Elem.o (by first | omega | (simp [Au] at *; omega)) ?_
  conv => whnf
  refine CallQ.o V.bool (by first | rfl | simp only [Aa, V.fz, fzL, V.up, upL, Ab, Ac, Ad, slr, List.cons_append, List.nil_append] | simp [Aa, V.fz, fzL, V.up, upL, Ab, Ac, Ad, slr]) h (fun r h => Aly h) (fun r3 h => ?_)
  conv => whnf
  refine Br.flip ?_
  conv => whnf
  refine Br.ob h (fun p4 h => ?_) (fun p4 h => ?_)
  ·conv => whnf
   refine Ask.o h fun p5 h => ?_
   conv => whnf
   cases h; exact ⟨rfl, rfl⟩
  conv => whnf
  cases h; exact ⟨rfl, rfl⟩
 conv => whnf
 cases h; exact ⟨rfl, rfl⟩
noncomputable def Bm (a0 : (List Int)) (b0 : (List Int)) : Option Bool :=
 (Ap (Bq a0 b0) (0 : Int)).bind fun t => match t with
 | (.inl _) => (some false)
 | (.inr _) => (some true)
theorem Do {a0 : (List Int)} {b0 : (List Int)} {v : Bool} (h : Bm a0 b0 = some v) : Ret Try.prog Ch [(slr false 1 Af) a0, (slr false 1 Af) b0] (V.bool v) := by
 refine A7 Aek (Nat.le_of_ble_eq_true rfl) ?_
 unfold Bm at h
 conv => whnf
 refine LoopQ.o [5, 0, 1] (J2 a0 b0) (Ow a0 b0) h (fun s o h => Yq s o h) (by first | rfl | simp [restrict, look, Aa, V.fz, fzL, V.up, upL, Ab, Ac, Ad, slr]) (by rintro (_ | _) <;> rfl) ?_
 rintro (⟨⟩ | ⟨⟩) h
 ·try dsimp only at h
  conv => whnf
  cases h; exact (by first | rfl | simp only [Ag, Aa, V.fz, fzL, V.up, upL, Ab, Ac, Ad, slr] | simp [Ag, Aa, V.fz, fzL, V.up, upL, Ab, Ac, Ad, slr])
 try dsimp only at h
 conv => whnf
 cases h; exact (by first | rfl | simp only [Ag, Aa, V.fz, fzL, V.up, upL, Ab, Ac, Ad, slr] | simp [Ag, Aa, V.fz, fzL, V.up, upL, Ab, Ac, Ad, slr])
end Go.Proofs.Ytidaaijecmkndaa.Ax
