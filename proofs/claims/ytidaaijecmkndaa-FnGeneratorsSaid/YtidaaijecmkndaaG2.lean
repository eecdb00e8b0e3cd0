/-
 What the functions compute, as functions on plain data, and that the program does compute it; written by program.
-/
import Derived.Test.YtidaaijecmkndaaCode
import Derived.Test.YtidaaijecmkndaaG1
namespace Go.Proofs.Ytidaaijecmkndaa.Ax
open Go
set_option maxRecDepth 100000
set_option maxHeartbeats 4000000
noncomputable def Df (a0 : List Int) (b0 : List Int) : Int → Option (Int ⊕ (Bool ⊕ Unit)) := fun x5 =>
 if x5 < (↑a0.length : Int) then
 ask ((0 : Int) ≤ x5 ∧ x5 < (↑a0.length : Int)) <|
 ask ((0 : Int) ≤ x5 ∧ x5 < (↑b0.length : Int)) <|
 if nth a0 x5.toNat ≠ nth b0 x5.toNat then
 ask ((0 : Int) ≤ x5 ∧ x5 < (↑a0.length : Int)) <|
 ask ((0 : Int) ≤ x5 ∧ x5 < (↑b0.length : Int)) <|
 some (.inr (.inl (decide (nth a0 x5.toNat < nth b0 x5.toNat))))
 else
 ask (InI (x5 + (1 : Int))) <|
 some (.inl (x5 + (1 : Int)))
 else
 some (.inr (.inr ()))
def K7 (a0 : List Int) (b0 : List Int) : Int → St := fun s => [(5, A.val (Af s)), (0, A.val ((slr false 1 Af) (a0))), (1, A.val ((slr false 1 Af) (b0)))]
def Qw (_a0 : List Int) (_b0 : List Int) : (Bool ⊕ Unit) → Tgt
 | (.inl s) => (Ex.ret, [4], [(4, A.val (V.bool s))])
 | (.inr _s) => ((Ex.exit 0), [], [])
theorem Aaj {a0 : List Int} {b0 : List Int} (x5 : Int) (o : Int ⊕ (Bool ⊕ Unit)) (h : Df a0 b0 x5 = some o) : vc Try.prog Q3 (C0 [5, 0, 1] (K7 a0 b0) (Qw a0 b0) o) (K7 a0 b0 x5) := by
 unfold Df at h
 try dsimp only at h
 conv => whnf
 refine Len.map ?_
 conv => whnf
 refine Br.od h (fun p1 h => ?_) (fun p1 h => ?_)
 ·conv => whnf
  refine Len.map ?_
  conv => whnf
  refine Ask.o h fun p2 h => ?_
  conv => whnf
  refine Elem.o (by first | omega | (simp [As] at *; omega)) ?_
  conv => whnf
  refine Len.map ?_
  conv => whnf
  refine Ask.o h fun p3 h => ?_
  conv => whnf
  refine Elem.o (by first | omega | (simp [As] at *; omega)) ?_
  conv => whnf
  refine Br.on h (fun p4 h => ?_) (fun p4 h => ?_)
  ·conv => whnf
   refine Len.map ?_
   conv => whnf
   refine Ask.o h fun p5 h => ?_
   conv => whnf
   refine Elem.o (by first | omega | (simp [As] at *; omega)) ?_
   conv => whnf
   refine Len.map ?_
   conv => whnf
   refine Ask.o h fun p6 h => ?_
   conv => whnf
   refine Elem.o (by first | omega | (simp [As] at *; omega)) ?_
   conv => whnf
   cases h; exact ⟨rfl, rfl⟩
  conv => whnf
  refine Ask.o h fun p7 h => ?_
  conv => whnf
  cases h; exact ⟨rfl, rfl⟩
 conv => whnf
 cases h; exact ⟨rfl, rfl⟩
noncomputable def Ft (a0 : (List Int)) (b0 : (List Int)) : Option Bool :=
 (Am (Df a0 b0) (0 : Int)).bind fun t => match t with
 | (.inl q8_4) => (some q8_4)
 | (.inr _) => (some false)
theorem W8 {a0 : (List Int)} {b0 : (List Int)} {v : Bool} (h : Ft a0 b0 = some v) : Ret Try.prog L3 [(slr false 1 Af) a0, (slr false 1 Af) b0] (V.bool v) := by
 refine A1 Ahq (Nat.le_of_ble_eq_true rfl) ?_
 unfold Ft at h
 conv => whnf
 refine LoopQ.o [5, 0, 1] (K7 a0 b0) (Qw a0 b0) h (fun s o h => Aaj s o h) (by first | rfl | simp [restrict, look, Aa, V.fz, fzL, V.up, upL, Ab, Ac, Ad, slr]) (by rintro (_ | _) <;> rfl) ?_
 rintro (q8_4 | ⟨⟩) h
 ·try dsimp only at h
  conv => whnf
  cases h; exact (by first | rfl | simp only [Ah, Aa, V.fz, fzL, V.up, upL, Ab, Ac, Ad, slr] | simp [Ah, Aa, V.fz, fzL, V.up, upL, Ab, Ac, Ad, slr])
 try dsimp only at h
 conv => whnf
 cases h; exact (by first | rfl | simp only [Ah, Aa, V.fz, fzL, V.up, upL, Ab, Ac, Ad, slr] | simp [Ah, Aa, V.fz, fzL, V.up, upL, Ab, Ac, Ad, slr])
noncomputable def Dl (list0 : List Int) (x0 : Int) : Int → Option (Int ⊕ (Unit ⊕ Unit)) := fun x9 =>
 if x9 < (↑list0.length : Int) then
 ask ((0 : Int) ≤ x9 ∧ x9 < (↑list0.length : Int)) <|
 if x0 = nth list0 x9.toNat then
 some (.inr (.inl ()))
 else
 ask (InI (x9 + (1 : Int))) <|
 some (.inl (x9 + (1 : Int)))
 else
 some (.inr (.inr ()))
def K8 (list0 : List Int) (x0 : Int) : Int → St := fun s => [(9, A.val (Af s)), (8, A.val (Af ((↑list0.length : Int)))), (7, A.val ((slr false 1 Af) (list0))), (1, A.val (Af (x0)))]
def Q7 (_list0 : List Int) (_x0 : Int) : (Unit ⊕ Unit) → Tgt
 | (.inl _s) => (Ex.ret, [4], [(4, A.val (V.bool (false)))])
 | (.inr _s) => ((Ex.exit 0), [], [])
theorem Abb {list0 : List Int} {x0 : Int} (x9 : Int) (o : Int ⊕ (Unit ⊕ Unit)) (h : Dl list0 x0 x9 = some o) : vc Try.prog Qv (C0 [9, 8, 7, 1] (K8 list0 x0) (Q7 list0 x0) o) (K8 list0 x0 x9) := by
 unfold Dl at h
 try dsimp only at h
 conv => whnf
 refine Br.od h (fun p1 h => ?_) (fun p1 h => ?_)
 ·conv => whnf
  refine Len.map ?_
  conv => whnf
  refine Ask.o h fun p2 h => ?_
  conv => whnf
  refine Elem.o (by first | omega | (simp [As] at *; omega)) ?_
  conv => whnf
  refine Br.oe h (fun p3 h => ?_) (fun p3 h => ?_)
  ·conv => whnf
   cases h; exact ⟨rfl, rfl⟩
  conv => whnf
  refine Ask.o h fun p4 h => ?_
  conv => whnf
  cases h; exact ⟨rfl, rfl⟩
 conv => whnf
 cases h; exact ⟨rfl, rfl⟩
noncomputable def G6 (list0 : (List Int)) (x0 : Int) : Option Bool :=
 (Am (Dl list0 x0) (0 : Int)).bind fun t => match t with
 | (.inl _) => (some false)
 | (.inr _) => (some true)
theorem W6 {list0 : (List Int)} {x0 : Int} {v : Bool} (h : G6 list0 x0 = some v) : Ret Try.prog L2 [(slr false 1 Af) list0, Af x0] (V.bool v) := by
 refine A1 Agx (Nat.le_of_ble_eq_true rfl) ?_
 unfold G6 at h
 conv => whnf
 refine Len.map ?_
 conv => whnf
 refine LoopQ.o [9, 8, 7, 1] (K8 list0 x0) (Q7 list0 x0) h (fun s o h => Abb s o h) (by first | rfl | simp [restrict, look, Aa, V.fz, fzL, V.up, upL, Ab, Ac, Ad, slr]) (by rintro (_ | _) <;> rfl) ?_
 rintro (⟨⟩ | ⟨⟩) h
 ·try dsimp only at h
  conv => whnf
  cases h; exact (by first | rfl | simp only [Ah, Aa, V.fz, fzL, V.up, upL, Ab, Ac, Ad, slr] | simp [Ah, Aa, V.fz, fzL, V.up, upL, Ab, Ac, Ad, slr])
 try dsimp only at h
 conv => whnf
 cases h; exact (by first | rfl | simp only [Ah, Aa, V.fz, fzL, V.up, upL, Ab, Ac, Ad, slr] | simp [Ah, Aa, V.fz, fzL, V.up, upL, Ab, Ac, Ad, slr])
noncomputable def Dz (c0 : Sl1Cur) : Option (Int × Sl1Cur) :=
 ((if c0.at_ < (↑c0.code.length : Int) then
 ask ((0 : Int) ≤ c0.at_ ∧ c0.at_ < (↑c0.code.length : Int)) <|
 some (IntKind.i64.wrap (nth c0.code c0.at_.toNat))
 else
 some (0 : Int) : Option Int)).bind fun q3_3 =>
 ask (InI (c0.at_ + (1 : Int))) <|
 if c0.at_ + (1 : Int) ≤ (↑c0.code.length : Int) then
 some (q3_3, { code := c0.code, at_ := c0.at_ + (1 : Int), seed := IntKind.u64.wrap (IntKind.u64.wrap (IntKind.u64.wrap (c0.seed * (6364136223846793005 : Int)) + IntKind.u64.wrap q3_3) + (550289 : Int)) })
 else
 some (IntKind.i64.wrap (IntKind.u64.wrap (↑(BitVec.ofInt IntKind.u64.bits ((IntKind.u64.wrap (IntKind.u64.wrap (IntKind.u64.wrap (c0.seed * (6364136223846793005 : Int)) + IntKind.u64.wrap q3_3) + (550289 : Int))).fdiv ((2 : Int) ^ min (Int.toNat (40 : Int)) IntKind.u64.bits)) &&& BitVec.ofInt IntKind.u64.bits (255 : Int)).toNat : Int)), { code := c0.code, at_ := c0.at_ + (1 : Int), seed := IntKind.u64.wrap (IntKind.u64.wrap (IntKind.u64.wrap (c0.seed * (6364136223846793005 : Int)) + IntKind.u64.wrap q3_3) + (550289 : Int)) })
theorem Pk {c0 : Sl1Cur} {v : (Int × Sl1Cur)} (h : Dz c0 = some v) : Ac8 Try.prog Hc [(rP true (Ao false)) c0] (Af v.1) 0 ((rP true (Ao false)) v.2) := by
 refine Wk Y9 (Nat.le_of_ble_eq_true rfl) ?_
 unfold Dz at h
 conv => whnf
 refine CutQ.o (fun t : Int => match t with | s => (Ex.normal, [3, 0, 62], [(3, A.val (Af s)), (0, A.ref 62 []), (62, A.val ((rP true (Ao false)) (c0)))])) h ?_ ?_
 ·intro t h
  conv => whnf
  refine Cells.lit rfl rfl ?_
  conv => whnf
  refine Cells.lit rfl rfl ?_
  conv => whnf
  refine Len.map ?_
  conv => whnf
  refine Br.od h (fun p1 h => ?_) (fun p1 h => ?_)
  ·conv => whnf
   refine Cells.lit rfl rfl ?_
   conv => whnf
   refine Cells.lit rfl rfl ?_
   conv => whnf
   refine Len.map ?_
   conv => whnf
   refine Ask.o h fun p2 h => ?_
   conv => whnf
   refine Elem.o (by first | omega | (simp [As] at *; omega)) ?_
   conv => whnf
   cases h; exact ⟨rfl, rfl⟩
  conv => whnf
  cases h; exact ⟨rfl, rfl⟩
 rintro q3_3 h
 try dsimp only at h
 conv => whnf
 refine Cells.lit rfl rfl ?_
 conv => whnf
 refine Ask.o h fun p4 h => ?_
 conv => whnf
 refine SetKids.lit rfl ?_
 conv => whnf
 refine Cells.lit rfl rfl ?_
 conv => whnf
 refine SetKids.lit rfl ?_
 conv => whnf
 refine Cells.lit rfl rfl ?_
 conv => whnf
 refine Cells.lit rfl rfl ?_
 conv => whnf
 refine Len.map ?_
 conv => whnf
 refine Br.od h (fun p5 h => ?_) (fun p5 h => ?_)
 ·conv => whnf
  cases h; exact ⟨(by first | rfl | simp only [Ah, Aa, V.fz, fzL, V.up, upL, Ab, Ac, Ad, slr] | simp [Ah, Aa, V.fz, fzL, V.up, upL, Ab, Ac, Ad, slr]), (by first | rfl | simp only [Ah, Aa, V.fz, fzL, V.up, upL, Ab, Ac, Ad, slr] | simp [Ah, Aa, V.fz, fzL, V.up, upL, Ab, Ac, Ad, slr])⟩
 conv => whnf
 refine Cells.lit rfl rfl ?_
 conv => whnf
 cases h; exact ⟨(by first | rfl | simp only [Ah, Aa, V.fz, fzL, V.up, upL, Ab, Ac, Ad, slr] | simp [Ah, Aa, V.fz, fzL, V.up, upL, Ab, Ac, Ad, slr]), (by first | rfl | simp only [Ah, Aa, V.fz, fzL, V.up, upL, Ab, Ac, Ad, slr] | simp [Ah, Aa, V.fz, fzL, V.up, upL, Ab, Ac, Ad, slr])⟩
noncomputable def Dh (n0 : Int) : (Int × (List Int) × Int) → Option ((Int × (List Int) × Int) ⊕ (List Int)) := fun (x8, x7, x2) =>
 if x8 ≥ (0 : Int) then
 ask (n0 ≠ (0 : Int)) <|
 ask ((0 : Int) ≤ x8 ∧ x8 < (↑x7.length : Int)) <|
 ask (n0 ≠ (0 : Int) ∧ InI (x2.tdiv n0)) <|
 ask (InI (x8 - (1 : Int))) <|
 some (.inl (x8 - (1 : Int), x7.set x8.toNat (x2.tmod n0), x2.tdiv n0))
 else
 some (.inr x7)
def Lw (n0 : Int) : (Int × (List Int) × Int) → St := fun s => [(8, A.val (Af s.1)), (7, A.val ((slr true 1 Af) s.2.1)), (0, A.val (Af (n0))), (2, A.val (Af s.2.2))]
def Q2 (_n0 : Int) : (List Int) → Tgt
 | s => ((Ex.exit 0), [7], [(7, A.val ((slr true 1 Af) s))])
theorem Aa1 {n0 : Int} (s : (Int × (List Int) × Int)) (o : (Int × (List Int) × Int) ⊕ (List Int)) (h : Dh n0 s = some o) : vc Try.prog Ra (C0 [8, 7, 0, 2] (Lw n0) (Q2 n0) o) (Lw n0 s) := by
 obtain ⟨x8, x7, x2⟩ := s
 unfold Dh at h
 try dsimp only at h
 conv => whnf
 refine Br.od h (fun p3 h => ?_) (fun p3 h => ?_)
 ·conv => whnf
  refine Ask.o h fun p4 h => ?_
  conv => whnf
  refine Len.map ?_
  conv => whnf
  refine Ask.o h fun p5 h => ?_
  conv => whnf
  refine SetKids.one (fun _ => ⟨rfl, rfl⟩) (x2.tmod n0) (by first | rfl | simp only [Aa, V.fz, fzL, V.up, upL, Ab, Ac, Ad, slr, List.cons_append, List.nil_append] | simp [Aa, V.fz, fzL, V.up, upL, Ab, Ac, Ad, slr]) (by first | omega | (simp [As] at *; omega)) ?_
  conv => whnf
  refine Ask.o h fun p6 h => ?_
  conv => whnf
  refine Ask.o h fun p7 h => ?_
  conv => whnf
  cases h; exact ⟨rfl, rfl⟩
 conv => whnf
 cases h; exact ⟨rfl, rfl⟩
noncomputable def Ip (n0 : Int) (arity0 : Int) (at0 : Int) : Option (List Int) :=
 ask ((0 : Int) ≤ arity0 ∧ arity0 ≤ (↑LIM : Int)) <|
 ask (InI (arity0 - (1 : Int))) <|
 (Am (Dh n0) (arity0 - (1 : Int), List.replicate arity0.toNat (0 : Int), at0)).bind fun q8_7 =>
 some q8_7
theorem Agq {n0 : Int} {arity0 : Int} {at0 : Int} {v : (List Int)} (h : Ip n0 arity0 at0 = some v) : Ret Try.prog P2 [Af n0, Af arity0, Af at0] ((slr true 1 Af) v) := by
 refine A1 Ahg (Nat.le_of_ble_eq_true rfl) ?_
 unfold Ip at h
 conv => whnf
 refine Ask.o h fun p1 h => ?_
 conv => whnf
 refine MkQ.o Af ((0 : Int)) rfl ?_
 conv => whnf
 refine Ask.o h fun p2 h => ?_
 conv => whnf
 refine LoopQ.o [8, 7, 0, 2] (Lw n0) (Q2 n0) h (fun s o h => Aa1 s o h) (by first | rfl | simp [restrict, look, Aa, V.fz, fzL, V.up, upL, Ab, Ac, Ad, slr]) (fun _ => rfl) ?_
 rintro q8_7 h
 try dsimp only at h
 conv => whnf
 cases h; exact (by first | rfl | simp only [Ah, Aa, V.fz, fzL, V.up, upL, Ab, Ac, Ad, slr] | simp [Ah, Aa, V.fz, fzL, V.up, upL, Ab, Ac, Ad, slr])
noncomputable def Cm (list0 : List Int) : Int → Option (Int ⊕ (Unit ⊕ Unit)) := fun x3 =>
 if x3 < (↑list0.length : Int) then
 ask (InI (x3 - (1 : Int))) <|
 ask ((0 : Int) ≤ x3 - (1 : Int) ∧ x3 - (1 : Int) < (↑list0.length : Int)) <|
 ask ((0 : Int) ≤ x3 ∧ x3 < (↑list0.length : Int)) <|
 if nth list0 (x3 - (1 : Int)).toNat ≥ nth list0 x3.toNat then
 some (.inr (.inl ()))
 else
 ask (InI (x3 + (1 : Int))) <|
 some (.inl (x3 + (1 : Int)))
 else
 some (.inr (.inr ()))
def M7 (list0 : List Int) : Int → St := fun s => [(3, A.val (Af s)), (0, A.val ((slr false 1 Af) (list0)))]
def Ts (_list0 : List Int) : (Unit ⊕ Unit) → Tgt
 | (.inl _s) => (Ex.ret, [2], [(2, A.val (V.bool (false)))])
 | (.inr _s) => ((Ex.exit 0), [], [])
theorem Ack {list0 : List Int} (x3 : Int) (o : Int ⊕ (Unit ⊕ Unit)) (h : Cm list0 x3 = some o) : vc Try.prog Tr (C0 [3, 0] (M7 list0) (Ts list0) o) (M7 list0 x3) := by
 unfold Cm at h
 try dsimp only at h
 conv => whnf
 refine Len.map ?_
 conv => whnf
 refine Br.od h (fun p1 h => ?_) (fun p1 h => ?_)
 ·conv => whnf
  refine Ask.o h fun p2 h => ?_
  conv => whnf
  refine Len.map ?_
  conv => whnf
  refine Ask.o h fun p3 h => ?_
  conv => whnf
  refine Elem.o (by first | omega | (simp [As] at *; omega)) ?_
  conv => whnf
  refine Len.map ?_
  conv => whnf
  refine Ask.o h fun p4 h => ?_
  conv => whnf
  refine Elem.o (by first | omega | (simp [As] at *; omega)) ?_
  conv => whnf
  refine Br.od h (fun p5 h => ?_) (fun p5 h => ?_)
  ·conv => whnf
   cases h; exact ⟨rfl, rfl⟩
  conv => whnf
  refine Ask.o h fun p6 h => ?_
  conv => whnf
  cases h; exact ⟨rfl, rfl⟩
 conv => whnf
 cases h; exact ⟨rfl, rfl⟩
noncomputable def Kk (list0 : (List Int)) : Option Bool :=
 (Am (Cm list0) (1 : Int)).bind fun t => match t with
 | (.inl _) => (some false)
 | (.inr _) => (some true)
theorem Aj8 {list0 : (List Int)} {v : Bool} (h : Kk list0 = some v) : Ret Try.prog Sr [(slr false 1 Af) list0] (V.bool v) := by
 refine A1 Aip (Nat.le_of_ble_eq_true rfl) ?_
 unfold Kk at h
 conv => whnf
 refine LoopQ.o [3, 0] (M7 list0) (Ts list0) h (fun s o h => Ack s o h) (by first | rfl | simp [restrict, look, Aa, V.fz, fzL, V.up, upL, Ab, Ac, Ad, slr]) (by rintro (_ | _) <;> rfl) ?_
 rintro (⟨⟩ | ⟨⟩) h
 ·try dsimp only at h
  conv => whnf
  cases h; exact (by first | rfl | simp only [Ah, Aa, V.fz, fzL, V.up, upL, Ab, Ac, Ad, slr] | simp [Ah, Aa, V.fz, fzL, V.up, upL, Ab, Ac, Ad, slr])
 try dsimp only at h
 conv => whnf
 cases h; exact (by first | rfl | simp only [Ah, Aa, V.fz, fzL, V.up, upL, Ab, Ac, Ad, slr] | simp [Ah, Aa, V.fz, fzL, V.up, upL, Ab, Ac, Ad, slr])
noncomputable def Dm (a0 : List Int) (b0 : List Int) : Int → Option (Int ⊕ (Unit ⊕ Unit)) := fun x5 =>
 if x5 < (↑a0.length : Int) then
 ask ((0 : Int) ≤ x5 ∧ x5 < (↑a0.length : Int)) <|
 ask ((0 : Int) ≤ x5 ∧ x5 < (↑b0.length : Int)) <|
 if nth a0 x5.toNat ≠ nth b0 x5.toNat then
 some (.inr (.inl ()))
 else
 ask (InI (x5 + (1 : Int))) <|
 some (.inl (x5 + (1 : Int)))
 else
 some (.inr (.inr ()))
def Li (a0 : List Int) (b0 : List Int) : Int → St := fun s => [(5, A.val (Af s)), (0, A.val ((slr false 1 Af) (a0))), (1, A.val ((slr false 1 Af) (b0)))]
def Qm (_a0 : List Int) (_b0 : List Int) : (Unit ⊕ Unit) → Tgt
 | (.inl _s) => (Ex.ret, [4], [(4, A.val (V.bool (false)))])
 | (.inr _s) => ((Ex.exit 0), [], [])
theorem Aag {a0 : List Int} {b0 : List Int} (x5 : Int) (o : Int ⊕ (Unit ⊕ Unit)) (h : Dm a0 b0 x5 = some o) : vc Try.prog R0 (C0 [5, 0, 1] (Li a0 b0) (Qm a0 b0) o) (Li a0 b0 x5) := by
 unfold Dm at h
 try dsimp only at h
 conv => whnf
 refine Len.map ?_
 conv => whnf
 refine Br.od h (fun p2 h => ?_) (fun p2 h => ?_)
 ·conv => whnf
  refine Len.map ?_
  conv => whnf
  refine Ask.o h fun p3 h => ?_
  conv => whnf
  refine Elem.o (by first | omega | (simp [As] at *; omega)) ?_
  conv => whnf
  refine Len.map ?_
  conv => whnf
  refine Ask.o h fun p4 h => ?_
  conv => whnf
  refine Elem.o (by first | omega | (simp [As] at *; omega)) ?_
  conv => whnf
  refine Br.on h (fun p5 h => ?_) (fun p5 h => ?_)
  ·conv => whnf
   cases h; exact ⟨rfl, rfl⟩
  conv => whnf
  refine Ask.o h fun p6 h => ?_
  conv => whnf
  cases h; exact ⟨rfl, rfl⟩
 conv => whnf
 cases h; exact ⟨rfl, rfl⟩
noncomputable def Iw (a0 : (List Int)) (b0 : (List Int)) : Option Bool :=
 if (↑a0.length : Int) ≠ (↑b0.length : Int) then
 some false
 else
 (Am (Dm a0 b0) (0 : Int)).bind fun t => match t with
 | (.inl _) => (some false)
 | (.inr _) => (some true)
theorem Af9 {a0 : (List Int)} {b0 : (List Int)} {v : Bool} (h : Iw a0 b0 = some v) : Ret Try.prog Pz [(slr false 1 Af) a0, (slr false 1 Af) b0] (V.bool v) := by
 refine A1 Agz (Nat.le_of_ble_eq_true rfl) ?_
 unfold Iw at h
 conv => whnf
 refine Len.map ?_
 conv => whnf
 refine Len.map ?_
 conv => whnf
 refine Br.on h (fun p1 h => ?_) (fun p1 h => ?_)
 ·conv => whnf
  cases h; exact (by first | rfl | simp only [Ah, Aa, V.fz, fzL, V.up, upL, Ab, Ac, Ad, slr] | simp [Ah, Aa, V.fz, fzL, V.up, upL, Ab, Ac, Ad, slr])
 conv => whnf
 refine LoopQ.o [5, 0, 1] (Li a0 b0) (Qm a0 b0) h (fun s o h => Aag s o h) (by first | rfl | simp [restrict, look, Aa, V.fz, fzL, V.up, upL, Ab, Ac, Ad, slr]) (by rintro (_ | _) <;> rfl) ?_
 rintro (⟨⟩ | ⟨⟩) h
 ·try dsimp only at h
  conv => whnf
  cases h; exact (by first | rfl | simp only [Ah, Aa, V.fz, fzL, V.up, upL, Ab, Ac, Ad, slr] | simp [Ah, Aa, V.fz, fzL, V.up, upL, Ab, Ac, Ad, slr])
 try dsimp only at h
 conv => whnf
 cases h; exact (by first | rfl | simp only [Ah, Aa, V.fz, fzL, V.up, upL, Ab, Ac, Ad, slr] | simp [Ah, Aa, V.fz, fzL, V.up, upL, Ab, Ac, Ad, slr])
noncomputable def Bw (s0 : List Int) (t0 : List Int) : Int → Option (Int ⊕ (Int ⊕ Unit)) := fun x5 =>
 ((if x5 < (↑s0.length : Int) then
 if x5 < (↑t0.length : Int) then
 some (.inl ())
 else
 some (.inr ())
 else
 some (.inr ()) : Option (Unit ⊕ Unit))).bind fun t => match t with
 | (.inl _) => (ask ((0 : Int) ≤ x5 ∧ x5 < (↑s0.length : Int)) <|
 ask ((0 : Int) ≤ x5 ∧ x5 < (↑t0.length : Int)) <|
 if nth s0 x5.toNat ≠ nth t0 x5.toNat then
 ask ((0 : Int) ≤ x5 ∧ x5 < (↑s0.length : Int)) <|
 ask ((0 : Int) ≤ x5 ∧ x5 < (↑t0.length : Int)) <|
 if nth s0 x5.toNat < nth t0 x5.toNat then
 some (.inr (.inl (-1 : Int)))
 else
 some (.inr (.inl (1 : Int)))
 else
 ask (InI (x5 + (1 : Int))) <|
 some (.inl (x5 + (1 : Int))))
 | (.inr _) => (some (.inr (.inr ())))
def Gp (s0 : List Int) (t0 : List Int) : Int → St := fun s => [(5, A.val (Af s)), (0, A.val ((slr false 1 Af) (s0))), (1, A.val ((slr false 1 Af) (t0)))]
def Kd (s0 : List Int) (t0 : List Int) : (Int ⊕ Unit) → Tgt
 | (.inl s) => (Ex.ret, [4], [(4, A.val (Af s))])
 | (.inr _s) => ((Ex.exit 0), [0, 1], [(0, A.val ((slr false 1 Af) (s0))), (1, A.val ((slr false 1 Af) (t0)))])
theorem Sg {s0 : List Int} {t0 : List Int} (x5 : Int) (o : Int ⊕ (Int ⊕ Unit)) (h : Bw s0 t0 x5 = some o) : vc Try.prog Kh (C0 [5, 0, 1] (Gp s0 t0) (Kd s0 t0) o) (Gp s0 t0 x5) := by
 unfold Bw at h
 try dsimp only at h
 conv => whnf
 refine CutQ.o (fun t : (Unit ⊕ Unit) => match t with | (.inl s) => (Ex.normal, [5, 0, 1], [(5, A.val (Af (x5))), (0, A.val ((slr false 1 Af) (s0))), (1, A.val ((slr false 1 Af) (t0)))]) | (.inr s) => ((Ex.exit 0), [0, 1], [(0, A.val ((slr false 1 Af) (s0))), (1, A.val ((slr false 1 Af) (t0)))])) h ?_ ?_
 ·intro t h
  conv => whnf
  refine Len.map ?_
  conv => whnf
  refine Br.od h (fun p1 h => ?_) (fun p1 h => ?_)
  ·conv => whnf
   refine Br.yes ?_
   conv => whnf
   refine Br.yes ?_
   conv => whnf
   refine Len.map ?_
   conv => whnf
   refine Br.yes ?_
   conv => whnf
   refine Br.yes ?_
   conv => whnf
   refine Br.od h (fun p2 h => ?_) (fun p2 h => ?_)
   ·conv => whnf
    cases h; exact ⟨rfl, rfl⟩
   conv => whnf
   cases h; exact ⟨rfl, rfl⟩
  conv => whnf
  refine Br.no ?_
  conv => whnf
  refine Br.no ?_
  conv => whnf
  refine Br.no ?_
  conv => whnf
  refine Br.no ?_
  conv => whnf
  refine Br.no ?_
  conv => whnf
  cases h; exact ⟨rfl, rfl⟩
 rintro (⟨⟩ | ⟨⟩) h
 ·try dsimp only at h
  conv => whnf
  refine Len.map ?_
  conv => whnf
  refine Ask.o h fun p4 h => ?_
  conv => whnf
  refine Elem.o (by first | omega | (simp [As] at *; omega)) ?_
  conv => whnf
  refine Len.map ?_
  conv => whnf
  refine Ask.o h fun p5 h => ?_
  conv => whnf
  refine Elem.o (by first | omega | (simp [As] at *; omega)) ?_
  conv => whnf
  refine Br.on h (fun p6 h => ?_) (fun p6 h => ?_)
  ·conv => whnf
   refine Len.map ?_
   conv => whnf
   refine Ask.o h fun p7 h => ?_
   conv => whnf
   refine Elem.o (by first | omega | (simp [As] at *; omega)) ?_
   conv => whnf
   refine Len.map ?_
   conv => whnf
   refine Ask.o h fun p8 h => ?_
   conv => whnf
   refine Elem.o (by first | omega | (simp [As] at *; omega)) ?_
   conv => whnf
   refine Br.od h (fun p9 h => ?_) (fun p9 h => ?_)
   ·conv => whnf
    cases h; exact ⟨rfl, rfl⟩
   conv => whnf
   cases h; exact ⟨rfl, rfl⟩
  conv => whnf
  refine Ask.o h fun p10 h => ?_
  conv => whnf
  cases h; exact ⟨rfl, rfl⟩
 try dsimp only at h
 conv => whnf
 cases h; exact ⟨rfl, rfl⟩
noncomputable def D8 (s0 : (List Int)) (t0 : (List Int)) : Option Int :=
 (Am (Bw s0 t0) (0 : Int)).bind fun t => match t with
 | (.inl q11_4) => (some q11_4)
 | (.inr _) => (if (↑s0.length : Int) < (↑t0.length : Int) then
 some (-1 : Int)
 else
 if (↑s0.length : Int) > (↑t0.length : Int) then
 some (1 : Int)
 else
 some (0 : Int))
theorem Wv {s0 : (List Int)} {t0 : (List Int)} {v : Int} (h : D8 s0 t0 = some v) : Ret Try.prog Ih [(slr false 1 Af) s0, (slr false 1 Af) t0] (Af v) := by
 refine A1 Wz (Nat.le_of_ble_eq_true rfl) ?_
 unfold D8 at h
 conv => whnf
 refine LoopQ.o [5, 0, 1] (Gp s0 t0) (Kd s0 t0) h (fun s o h => Sg s o h) (by first | rfl | simp [restrict, look, Aa, V.fz, fzL, V.up, upL, Ab, Ac, Ad, slr]) (by rintro (_ | _) <;> rfl) ?_
 rintro (q11_4 | ⟨⟩) h
 ·try dsimp only at h
  conv => whnf
  cases h; exact (by first | rfl | simp only [Ah, Aa, V.fz, fzL, V.up, upL, Ab, Ac, Ad, slr] | simp [Ah, Aa, V.fz, fzL, V.up, upL, Ab, Ac, Ad, slr])
 try dsimp only at h
 conv => whnf
 refine Len.map ?_
 conv => whnf
 refine Len.map ?_
 conv => whnf
 refine Br.od h (fun p12 h => ?_) (fun p12 h => ?_)
 ·conv => whnf
  cases h; exact (by first | rfl | simp only [Ah, Aa, V.fz, fzL, V.up, upL, Ab, Ac, Ad, slr] | simp [Ah, Aa, V.fz, fzL, V.up, upL, Ab, Ac, Ad, slr])
 conv => whnf
 refine Len.map ?_
 conv => whnf
 refine Len.map ?_
 conv => whnf
 refine Br.od h (fun p13 h => ?_) (fun p13 h => ?_)
 ·conv => whnf
  cases h; exact (by first | rfl | simp only [Ah, Aa, V.fz, fzL, V.up, upL, Ab, Ac, Ad, slr] | simp [Ah, Aa, V.fz, fzL, V.up, upL, Ab, Ac, Ad, slr])
 conv => whnf
 cases h; exact (by first | rfl | simp only [Ah, Aa, V.fz, fzL, V.up, upL, Ab, Ac, Ad, slr] | simp [Ah, Aa, V.fz, fzL, V.up, upL, Ab, Ac, Ad, slr])
noncomputable def Er (s0 : ByteArray) : (Int × SOp) → Option ((Int × SOp) ⊕ SOp) := fun (x4, x3) =>
 if x4 < (↑s0.size : Int) then
 ask ((0 : Int) ≤ x4 ∧ x4 < (↑s0.size : Int)) <|
 ask ((x3.Table).length + ([IntKind.i64.wrap (IntKind.u8.wrap (Ab5 s0 x4 - (48 : Int)))]).length ≤ LIM) <|
 ask (InI (x4 + (1 : Int))) <|
 some (.inl (x4 + (1 : Int), { Arity := x3.Arity, Table := x3.Table ++ [IntKind.i64.wrap (IntKind.u8.wrap (Ab5 s0 x4 - (48 : Int)))] }))
 else
 some (.inr x3)
def I3 (s0 : ByteArray) : (Int × SOp) → St := fun s => [(4, A.val (Af s.1)), (3, A.val ((rP true (A6 true)) s.2)), (2, A.val ((rP true (A6 true)) ({ Arity := (0 : Int), Table := A5 Int }))), (0, A.val (V.str (s0)))]
def N2 (_s0 : ByteArray) : SOp → Tgt
 | s => ((Ex.exit 0), [3, 2], [(3, A.val ((rP true (A6 true)) s)), (2, A.val ((rP true (A6 true)) ({ Arity := (0 : Int), Table := A5 Int })))])
theorem X4 {s0 : ByteArray} (s : (Int × SOp)) (o : (Int × SOp) ⊕ SOp) (h : Er s0 s = some o) : vc Try.prog Oh (C0 [4, 3, 2, 0] (I3 s0) (N2 s0) o) (I3 s0 s) := by
 obtain ⟨x4, x3⟩ := s
 unfold Er at h
 try dsimp only at h
 conv => whnf
 refine Br.od h (fun p1 h => ?_) (fun p1 h => ?_)
 ·conv => whnf
  refine Cells.lit rfl rfl ?_
  conv => whnf
  refine Ask.o h fun p2 h => ?_
  conv => whnf
  refine BslQ.o Af ([IntKind.i64.wrap (IntKind.u8.wrap (Ab5 s0 x4 - (48 : Int)))]) (by exact fun _ => ⟨rfl, rfl⟩) (by first | rfl | simp only [Aa, V.fz, fzL, V.up, upL, Ab, Ac, Ad, slr, List.cons_append, List.nil_append] | simp [Aa, V.fz, fzL, V.up, upL, Ab, Ac, Ad, slr]) ?_
  conv => whnf
  refine NoOwn.o (fun _ => rfl) ?_
  conv => whnf
  refine Kid.lit rfl rfl ?_
  conv => whnf
  refine Kid.lit rfl rfl ?_
  conv => whnf
  refine SetKids.lit rfl ?_
  conv => whnf
  refine AppQ.o (m := 1) Af (by exact fun _ => ⟨rfl, rfl⟩) (x3.Table) ([IntKind.i64.wrap (IntKind.u8.wrap (Ab5 s0 x4 - (48 : Int)))]) (by first | rfl | simp only [Aa, V.fz, fzL, V.up, upL, Ab, Ac, Ad, slr, List.cons_append, List.nil_append] | simp [Aa, V.fz, fzL, V.up, upL, Ab, Ac, Ad, slr]) (by first | rfl | simp only [Aa, V.fz, fzL, V.up, upL, Ab, Ac, Ad, slr, List.cons_append, List.nil_append] | simp [Aa, V.fz, fzL, V.up, upL, Ab, Ac, Ad, slr]) h fun h => ?_
  conv => whnf
  refine SetKids.lit rfl ?_
  conv => whnf
  refine Ask.o h fun p3 h => ?_
  conv => whnf
  cases h; exact ⟨rfl, rfl⟩
 conv => whnf
 cases h; exact ⟨rfl, rfl⟩
noncomputable def Au (s0 : ByteArray) : Option SOp :=
 (Am (Er s0) ((0 : Int), { Arity := (2 : Int), Table := A5 Int })).bind fun q4_3 =>
 some q4_3
theorem A9 {s0 : ByteArray} {v : SOp} (h : Au s0 = some v) : Ret Try.prog A2 [V.str s0] ((A6 true) v) := by
 refine A1 Ac1 (Nat.le_of_ble_eq_true rfl) ?_
 unfold Au at h
 conv => whnf
 refine SetKids.lit rfl ?_
 conv => whnf
 refine LoopQ.o [4, 3, 2, 0] (I3 s0) (N2 s0) h (fun s o h => X4 s o h) (by first | rfl | simp [restrict, look, Aa, V.fz, fzL, V.up, upL, Ab, Ac, Ad, slr]) (fun _ => rfl) ?_
 rintro q4_3 h
 try dsimp only at h
 conv => whnf
 refine Cells.lit rfl rfl ?_
 conv => whnf
 refine SetKids.lit rfl ?_
 conv => whnf
 cases h; exact (by first | rfl | simp only [Ah, Aa, V.fz, fzL, V.up, upL, Ab, Ac, Ad, slr] | simp [Ah, Aa, V.fz, fzL, V.up, upL, Ab, Ac, Ad, slr])
noncomputable def E1 (n0 : Int) : (Int × SOp) → Option ((Int × SOp) ⊕ SOp) := fun (x4, x3) =>
 ask (InI (n0 * n0)) <|
 ask (InI (n0 * n0 * n0)) <|
 if x4 < n0 * n0 * n0 then
 ask (InI (n0 * n0)) <|
 ask (n0 * n0 ≠ (0 : Int) ∧ InI (x4.tdiv (n0 * n0))) <|
 ask (InI (x4.tdiv (n0 * n0) + n0)) <|
 ask (n0 ≠ (0 : Int) ∧ InI (x4.tdiv n0)) <|
 ask (n0 ≠ (0 : Int)) <|
 ask (InI (x4.tdiv (n0 * n0) + n0 - (x4.tdiv n0).tmod n0)) <|
 ask (n0 ≠ (0 : Int)) <|
 ask (InI (x4.tdiv (n0 * n0) + n0 - (x4.tdiv n0).tmod n0 + x4.tmod n0)) <|
 ask (n0 ≠ (0 : Int)) <|
 ask ((x3.Table).length + ([(x4.tdiv (n0 * n0) + n0 - (x4.tdiv n0).tmod n0 + x4.tmod n0).tmod n0]).length ≤ LIM) <|
 ask (InI (x4 + (1 : Int))) <|
 some (.inl (x4 + (1 : Int), { Arity := x3.Arity, Table := x3.Table ++ [(x4.tdiv (n0 * n0) + n0 - (x4.tdiv n0).tmod n0 + x4.tmod n0).tmod n0] }))
 else
 some (.inr x3)
def I9 (n0 : Int) : (Int × SOp) → St := fun s => [(4, A.val (Af s.1)), (3, A.val ((rP true (A6 true)) s.2)), (2, A.val ((rP true (A6 true)) ({ Arity := (0 : Int), Table := A5 Int }))), (0, A.val (Af (n0)))]
def N4 (_n0 : Int) : SOp → Tgt
 | s => ((Ex.exit 0), [3, 2], [(3, A.val ((rP true (A6 true)) s)), (2, A.val ((rP true (A6 true)) ({ Arity := (0 : Int), Table := A5 Int })))])
theorem Ym {n0 : Int} (s : (Int × SOp)) (o : (Int × SOp) ⊕ SOp) (h : E1 n0 s = some o) : vc Try.prog O4 (C0 [4, 3, 2, 0] (I9 n0) (N4 n0) o) (I9 n0 s) := by
 obtain ⟨x4, x3⟩ := s
 unfold E1 at h
 try dsimp only at h
 conv => whnf
 refine Ask.o h fun p1 h => ?_
 conv => whnf
 refine Ask.o h fun p2 h => ?_
 conv => whnf
 refine Br.od h (fun p3 h => ?_) (fun p3 h => ?_)
 ·conv => whnf
  refine Cells.lit rfl rfl ?_
  conv => whnf
  refine Ask.o h fun p4 h => ?_
  conv => whnf
  refine Ask.o h fun p5 h => ?_
  conv => whnf
  refine Ask.o h fun p6 h => ?_
  conv => whnf
  refine Ask.o h fun p7 h => ?_
  conv => whnf
  refine Ask.o h fun p8 h => ?_
  conv => whnf
  refine Ask.o h fun p9 h => ?_
  conv => whnf
  refine Ask.o h fun p10 h => ?_
  conv => whnf
  refine Ask.o h fun p11 h => ?_
  conv => whnf
  refine Ask.o h fun p12 h => ?_
  conv => whnf
  refine BslQ.o Af ([(x4.tdiv (n0 * n0) + n0 - (x4.tdiv n0).tmod n0 + x4.tmod n0).tmod n0]) (by exact fun _ => ⟨rfl, rfl⟩) (by first | rfl | simp only [Aa, V.fz, fzL, V.up, upL, Ab, Ac, Ad, slr, List.cons_append, List.nil_append] | simp [Aa, V.fz, fzL, V.up, upL, Ab, Ac, Ad, slr]) ?_
  conv => whnf
  refine NoOwn.o (fun _ => rfl) ?_
  conv => whnf
  refine Kid.lit rfl rfl ?_
  conv => whnf
  refine Kid.lit rfl rfl ?_
  conv => whnf
  refine SetKids.lit rfl ?_
  conv => whnf
  refine AppQ.o (m := 1) Af (by exact fun _ => ⟨rfl, rfl⟩) (x3.Table) ([(x4.tdiv (n0 * n0) + n0 - (x4.tdiv n0).tmod n0 + x4.tmod n0).tmod n0]) (by first | rfl | simp only [Aa, V.fz, fzL, V.up, upL, Ab, Ac, Ad, slr, List.cons_append, List.nil_append] | simp [Aa, V.fz, fzL, V.up, upL, Ab, Ac, Ad, slr]) (by first | rfl | simp only [Aa, V.fz, fzL, V.up, upL, Ab, Ac, Ad, slr, List.cons_append, List.nil_append] | simp [Aa, V.fz, fzL, V.up, upL, Ab, Ac, Ad, slr]) h fun h => ?_
  conv => whnf
  refine SetKids.lit rfl ?_
  conv => whnf
  refine Ask.o h fun p13 h => ?_
  conv => whnf
  cases h; exact ⟨rfl, rfl⟩
 conv => whnf
 cases h; exact ⟨rfl, rfl⟩
noncomputable def Fg (n0 : Int) : Option SOp :=
 (Am (E1 n0) ((0 : Int), { Arity := (3 : Int), Table := A5 Int })).bind fun q14_3 =>
 some q14_3
theorem Tv {n0 : Int} {v : SOp} (h : Fg n0 = some v) : Ret Try.prog I1 [Af n0] ((A6 true) v) := by
 refine A1 Acd (Nat.le_of_ble_eq_true rfl) ?_
 unfold Fg at h
 conv => whnf
 refine SetKids.lit rfl ?_
 conv => whnf
 refine LoopQ.o [4, 3, 2, 0] (I9 n0) (N4 n0) h (fun s o h => Ym s o h) (by first | rfl | simp [restrict, look, Aa, V.fz, fzL, V.up, upL, Ab, Ac, Ad, slr]) (fun _ => rfl) ?_
 rintro q14_3 h
 try dsimp only at h
 conv => whnf
 refine Cells.lit rfl rfl ?_
 conv => whnf
 refine SetKids.lit rfl ?_
 conv => whnf
 cases h; exact (by first | rfl | simp only [Ah, Aa, V.fz, fzL, V.up, upL, Ab, Ac, Ad, slr] | simp [Ah, Aa, V.fz, fzL, V.up, upL, Ab, Ac, Ad, slr])
noncomputable def D3 (n0 : Int) : (Int × Int) → Option ((Int × Int) ⊕ Int) := fun (x5, x1) =>
 if x1 > (0 : Int) then
 ask (InI (x5 * n0)) <|
 ask (InI (x1 - (1 : Int))) <|
 some (.inl (x5 * n0, x1 - (1 : Int)))
 else
 some (.inr x5)
def M4 (n0 : Int) : (Int × Int) → St := fun s => [(5, A.val (Af s.1)), (0, A.val (Af (n0))), (1, A.val (Af s.2))]
def Tt (_n0 : Int) : Int → Tgt
 | s => ((Ex.exit 0), [5], [(5, A.val (Af s))])
theorem Ac0 {n0 : Int} (s : (Int × Int)) (o : (Int × Int) ⊕ Int) (h : D3 n0 s = some o) : vc Try.prog To (C0 [5, 0, 1] (M4 n0) (Tt n0) o) (M4 n0 s) := by
 obtain ⟨x5, x1⟩ := s
 unfold D3 at h
 try dsimp only at h
 conv => whnf
 refine Br.od h (fun p1 h => ?_) (fun p1 h => ?_)
 ·conv => whnf
  refine Ask.o h fun p2 h => ?_
  conv => whnf
  refine Ask.o h fun p3 h => ?_
  conv => whnf
  cases h; exact ⟨rfl, rfl⟩
 conv => whnf
 cases h; exact ⟨rfl, rfl⟩
noncomputable def Hu (n0 : Int) (k0 : Int) : Option Int :=
 (Am (D3 n0) ((1 : Int), k0)).bind fun q4_5 =>
 some q4_5
theorem Ain {n0 : Int} {k0 : Int} {v : Int} (h : Hu n0 k0 = some v) : Ret Try.prog Sc [Af n0, Af k0] (Af v) := by
 refine A1 Akc (Nat.le_of_ble_eq_true rfl) ?_
 unfold Hu at h
 conv => whnf
 refine LoopQ.o [5, 0, 1] (M4 n0) (Tt n0) h (fun s o h => Ac0 s o h) (by first | rfl | simp [restrict, look, Aa, V.fz, fzL, V.up, upL, Ab, Ac, Ad, slr]) (fun _ => rfl) ?_
 rintro q4_5 h
 try dsimp only at h
 conv => whnf
 cases h; exact (by first | rfl | simp only [Ah, Aa, V.fz, fzL, V.up, upL, Ab, Ac, Ad, slr] | simp [Ah, Aa, V.fz, fzL, V.up, upL, Ab, Ac, Ad, slr])
noncomputable def Do (a0 : List (List Int)) (b0 : List (List Int)) : Int → Option (Int ⊕ (Unit ⊕ Unit)) := fun x5 =>
 if x5 < (↑a0.length : Int) then
 ask ((0 : Int) ≤ x5 ∧ x5 < (↑a0.length : Int)) <|
 ask ((0 : Int) ≤ x5 ∧ x5 < (↑b0.length : Int)) <|
 (Eb (nth a0 x5.toNat) (nth b0 x5.toNat)).bind fun r5 =>
 if (r5) = true then
 ask (InI (x5 + (1 : Int))) <|
 some (.inl (x5 + (1 : Int)))
 else
 some (.inr (.inl ()))
 else
 some (.inr (.inr ()))
def K5 (a0 : List (List Int)) (b0 : List (List Int)) : Int → St := fun s => [(5, A.val (Af s)), (0, A.val ((slr false 1 (slr false 1 Af)) (a0))), (1, A.val ((slr false 1 (slr false 1 Af)) (b0)))]
def Rd (_a0 : List (List Int)) (_b0 : List (List Int)) : (Unit ⊕ Unit) → Tgt
 | (.inl _s) => (Ex.ret, [4], [(4, A.val (V.bool (false)))])
 | (.inr _s) => ((Ex.exit 0), [], [])
theorem Aa3 {a0 : List (List Int)} {b0 : List (List Int)} (x5 : Int) (o : Int ⊕ (Unit ⊕ Unit)) (h : Do a0 b0 x5 = some o) : vc Try.prog Ql (C0 [5, 0, 1] (K5 a0 b0) (Rd a0 b0) o) (K5 a0 b0 x5) := by
 unfold Do at h
 try dsimp only at h
 conv => whnf
 refine Len.map ?_
 conv => whnf
 refine Br.od h (fun p2 h => ?_) (fun p2 h => ?_)
 ·conv => whnf
  refine Len.map ?_
  conv => whnf
  refine Ask.o h fun p3 h => ?_
  conv => whnf
  refine Elem.o (by first | omega | (simp [As] at *; omega)) ?_
  conv => whnf
  refine Len.map ?_
  conv => whnf
  refine Ask.o h fun p4 h => ?_
  conv => whnf
  refine Elem.o (by first | omega | (simp [As] at *; omega)) ?_
  conv => whnf
  refine CallQ.o V.bool (by first | rfl | simp only [Aa, V.fz, fzL, V.up, upL, Ab, Ac, Ad, slr, List.cons_append, List.nil_append] | simp [Aa, V.fz, fzL, V.up, upL, Ab, Ac, Ad, slr]) h (fun r h => Nl h) (fun r5 h => ?_)
  conv => whnf
  refine Br.flip ?_
  conv => whnf
  refine Br.ob h (fun p6 h => ?_) (fun p6 h => ?_)
  ·conv => whnf
   refine Ask.o h fun p7 h => ?_
   conv => whnf
   cases h; exact ⟨rfl, rfl⟩
  conv => whnf
  cases h; exact ⟨rfl, rfl⟩
 conv => whnf
 cases h; exact ⟨rfl, rfl⟩
noncomputable def Fr (a0 : (List (List Int))) (b0 : (List (List Int))) : Option Bool :=
 if (↑a0.length : Int) ≠ (↑b0.length : Int) then
 some false
 else
 (Am (Do a0 b0) (0 : Int)).bind fun t => match t with
 | (.inl _) => (some false)
 | (.inr _) => (some true)
theorem Xd {a0 : (List (List Int))} {b0 : (List (List Int))} {v : Bool} (h : Fr a0 b0 = some v) : Ret Try.prog L7 [(slr false 1 (slr false 1 Af)) a0, (slr false 1 (slr false 1 Af)) b0] (V.bool v) := by
 refine A1 Ag2 (Nat.le_of_ble_eq_true rfl) ?_
 unfold Fr at h
 conv => whnf
 refine Len.map ?_
 conv => whnf
 refine Len.map ?_
 conv => whnf
 refine Br.on h (fun p1 h => ?_) (fun p1 h => ?_)
 ·conv => whnf
  cases h; exact (by first | rfl | simp only [Ah, Aa, V.fz, fzL, V.up, upL, Ab, Ac, Ad, slr] | simp [Ah, Aa, V.fz, fzL, V.up, upL, Ab, Ac, Ad, slr])
 conv => whnf
 refine LoopQ.o [5, 0, 1] (K5 a0 b0) (Rd a0 b0) h (fun s o h => Aa3 s o h) (by first | rfl | simp [restrict, look, Aa, V.fz, fzL, V.up, upL, Ab, Ac, Ad, slr]) (by rintro (_ | _) <;> rfl) ?_
 rintro (⟨⟩ | ⟨⟩) h
 ·try dsimp only at h
  conv => whnf
  cases h; exact (by first | rfl | simp only [Ah, Aa, V.fz, fzL, V.up, upL, Ab, Ac, Ad, slr] | simp [Ah, Aa, V.fz, fzL, V.up, upL, Ab, Ac, Ad, slr])
 try dsimp only at h
 conv => whnf
 cases h; exact (by first | rfl | simp only [Ah, Aa, V.fz, fzL, V.up, upL, Ab, Ac, Ad, slr] | simp [Ah, Aa, V.fz, fzL, V.up, upL, Ab, Ac, Ad, slr])
noncomputable def Bi (c0 : Sl1Cur) (n0 : Int) : Option (Int × Sl1Cur) :=
 if n0 ≤ (1 : Int) then
 some ((0 : Int), c0)
 else
 (Dz (c0)).bind fun (r2, u3) =>
 if n0 > (200 : Int) then
 ask (InI (r2 * (256 : Int))) <|
 (Dz (u3)).bind fun (r6, u7) =>
 ask (InI (r2 * (256 : Int) + r6)) <|
 ask (n0 ≠ (0 : Int)) <|
 some ((r2 * (256 : Int) + r6).tmod n0, u7)
 else
 ask (n0 ≠ (0 : Int)) <|
 some (r2.tmod n0, u3)
theorem B2 {c0 : Sl1Cur} {n0 : Int} {v : (Int × Sl1Cur)} (h : Bi c0 n0 = some v) : Ac8 Try.prog Bg [(rP true (Ao false)) c0, Af n0] (Af v.1) 0 ((rP true (Ao false)) v.2) := by
 refine Wk Zy (Nat.le_of_ble_eq_true rfl) ?_
 unfold Bi at h
 conv => whnf
 refine Br.od h (fun p1 h => ?_) (fun p1 h => ?_)
 ·conv => whnf
  cases h; exact ⟨(by first | rfl | simp only [Ah, Aa, V.fz, fzL, V.up, upL, Ab, Ac, Ad, slr] | simp [Ah, Aa, V.fz, fzL, V.up, upL, Ab, Ac, Ad, slr]), (by first | rfl | simp only [Ah, Aa, V.fz, fzL, V.up, upL, Ab, Ac, Ad, slr] | simp [Ah, Aa, V.fz, fzL, V.up, upL, Ab, Ac, Ad, slr])⟩
 conv => whnf
 refine CallQ.io Af (rP true (Ao false)) (by first | rfl | simp only [Aa, V.fz, fzL, V.up, upL, Ab, Ac, Ad, slr, List.cons_append, List.nil_append] | simp [Aa, V.fz, fzL, V.up, upL, Ab, Ac, Ad, slr]) rfl (fun _ => rfl) (fun _ => ⟨rfl, rfl⟩) rfl h (fun r h => Pk h) (fun r2 u3 h => ?_)
 conv => whnf
 refine Br.od h (fun p4 h => ?_) (fun p4 h => ?_)
 ·conv => whnf
  refine Ask.o h fun p5 h => ?_
  conv => whnf
  refine CallQ.io Af (rP true (Ao false)) (by first | rfl | simp only [Aa, V.fz, fzL, V.up, upL, Ab, Ac, Ad, slr, List.cons_append, List.nil_append] | simp [Aa, V.fz, fzL, V.up, upL, Ab, Ac, Ad, slr]) rfl (fun _ => rfl) (fun _ => ⟨rfl, rfl⟩) rfl h (fun r h => Pk h) (fun r6 u7 h => ?_)
  conv => whnf
  refine Ask.o h fun p8 h => ?_
  conv => whnf
  refine Ask.o h fun p9 h => ?_
  conv => whnf
  cases h; exact ⟨(by first | rfl | simp only [Ah, Aa, V.fz, fzL, V.up, upL, Ab, Ac, Ad, slr] | simp [Ah, Aa, V.fz, fzL, V.up, upL, Ab, Ac, Ad, slr]), (by first | rfl | simp only [Ah, Aa, V.fz, fzL, V.up, upL, Ab, Ac, Ad, slr] | simp [Ah, Aa, V.fz, fzL, V.up, upL, Ab, Ac, Ad, slr])⟩
 conv => whnf
 refine Ask.o h fun p10 h => ?_
 conv => whnf
 cases h; exact ⟨(by first | rfl | simp only [Ah, Aa, V.fz, fzL, V.up, upL, Ab, Ac, Ad, slr] | simp [Ah, Aa, V.fz, fzL, V.up, upL, Ab, Ac, Ad, slr]), (by first | rfl | simp only [Ah, Aa, V.fz, fzL, V.up, upL, Ab, Ac, Ad, slr] | simp [Ah, Aa, V.fz, fzL, V.up, upL, Ab, Ac, Ad, slr])⟩
end Go.Proofs.Ytidaaijecmkndaa.Ax
