/-
 What the functions compute, as functions on plain data, and that the program does compute it; written by program.
-/
import Derived.Test.YtoaojijoefljaaaCode
import Derived.Test.YtoaojijoefljaaaG1
namespace Go.Proofs.Ytoaojijoefljaaa.Ax
open Go
set_option maxRecDepth 100000
set_option maxHeartbeats 4000000
noncomputable def Ek (a0 : List Int) (b0 : List Int) : Int → Option (Int ⊕ (Unit ⊕ Unit)) := fun x5 =>
 if x5 < (↑a0.length : Int) then
 ask ((0 : Int) ≤ x5 ∧ x5 < (↑a0.length : Int)) <|
 ask ((0 : Int) ≤ x5 ∧ x5 < (↑b0.length : Int)) <|
 if nth a0 x5.toNat ≠ nth b0 x5.toNat then
 some (.inr (.inl ()))
 else
 ask (InI (x5 + (1 : Int))) <|
 some (.inl (x5 + (1 : Int)))
 else
 some (.inr (.inr ()))
def Mz (a0 : List Int) (b0 : List Int) : Int → St := fun s => [(5, A.val (Ae s)), (0, A.val ((slr false 1 Ae) (a0))), (1, A.val ((slr false 1 Ae) (b0)))]
def T6 (_a0 : List Int) (_b0 : List Int) : (Unit ⊕ Unit) → Tgt
 | (.inl _s) => (Ex.ret, [4], [(4, A.val (V.bool (false)))])
 | (.inr _s) => ((Ex.exit 0), [], [])
theorem Adh {a0 : List Int} {b0 : List Int} (x5 : Int) (o : Int ⊕ (Unit ⊕ Unit)) (h : Ek a0 b0 x5 = some o) : vc Try.prog T0 (Dy [5, 0, 1] (Mz a0 b0) (T6 a0 b0) o) (Mz a0 b0 x5) := by
 unfold Ek at h
 try dsimp only at h
 conv => whnf
 refine Len.map ?_
 conv => whnf
 refine Br.od h (fun p2 h => ?_) (fun p2 h => ?_)
 ·conv => whnf
  refine Len.map ?_
  conv => whnf
  refine Ask.o h fun p3 h => ?_
  conv => whnf
  refine Elem.o (by first | omega | (simp [Bh] at * <;> omega)) ?_
  conv => whnf
  refine Len.map ?_
  conv => whnf
  refine Ask.o h fun p4 h => ?_
  conv => whnf
  refine Elem.o (by first | omega | (simp [Bh] at * <;> omega)) ?_
  conv => whnf
  refine Br.on h (fun p5 h => ?_) (fun p5 h => ?_)
  ·conv => whnf
   cases h; exact ⟨rfl, rfl⟩
  conv => whnf
  refine Ask.o h fun p6 h => ?_
  conv => whnf
  cases h; exact ⟨rfl, rfl⟩
 conv => whnf
 cases h; exact ⟨rfl, rfl⟩
noncomputable def Ie (a0 : (List Int)) (b0 : (List Int)) : Option Bool :=
 if (↑a0.length : Int) ≠ (↑b0.length : Int) then
 some false
 else
 (Ar (Ek a0 b0) (0 : Int)).bind fun t => match t with
 | (.inl _) => (some false)
 | (.inr _) => (some true)
theorem Y8 {a0 : (List Int)} {b0 : (List Int)} {v : Bool} (h : Ie a0 b0 = some v) : Ret Try.prog Na [(slr false 1 Ae) a0, (slr false 1 Ae) b0] (V.bool v) := by
 refine Bg Ai1 (Nat.le_of_ble_eq_true rfl) ?_
 unfold Ie at h
 conv => whnf
 refine Len.map ?_
 conv => whnf
 refine Len.map ?_
 conv => whnf
 refine Br.on h (fun p1 h => ?_) (fun p1 h => ?_)
 ·conv => whnf
  cases h; exact (by rfl)
 conv => whnf
 refine LoopQ.o [5, 0, 1] (Mz a0 b0) (T6 a0 b0) h (fun s o h => Adh s o h) (by rfl) (by rintro (_ | _) <;> rfl) ?_
 rintro (⟨⟩ | ⟨⟩) h
 ·try dsimp only at h
  conv => whnf
  cases h; exact (by rfl)
 try dsimp only at h
 conv => whnf
 cases h; exact (by rfl)
noncomputable def D0 (args0 : List Int) (n0 : Int) : (Int × Int) → Option ((Int × Int) ⊕ Int) := fun (x10, x5) =>
 if x10 < (↑args0.length : Int) then
 ask ((0 : Int) ≤ x10 ∧ x10 < (↑args0.length : Int)) <|
 ask (InI (x5 * n0)) <|
 ask (InI (x5 * n0 + nth args0 x10.toNat)) <|
 ask (InI (x10 + (1 : Int))) <|
 some (.inl (x10 + (1 : Int), x5 * n0 + nth args0 x10.toNat))
 else
 some (.inr x5)
def Ln (args0 : List Int) (n0 : Int) : (Int × Int) → St := fun s => [(10, A.val (Ae s.1)), (9, A.val (Ae ((↑args0.length : Int)))), (8, A.val ((slr false 1 Ae) (args0))), (5, A.val (Ae s.2)), (1, A.val (Ae (n0)))]
def Rn (_args0 : List Int) (_n0 : Int) : Int → Tgt
 | s => ((Ex.exit 0), [5], [(5, A.val (Ae s))])
theorem Abb {args0 : List Int} {n0 : Int} (s : (Int × Int)) (o : (Int × Int) ⊕ Int) (h : D0 args0 n0 s = some o) : vc Try.prog R7 (Dy [10, 9, 8, 5, 1] (Ln args0 n0) (Rn args0 n0) o) (Ln args0 n0 s) := by
 obtain ⟨x10, x5⟩ := s
 unfold D0 at h
 try dsimp only at h
 conv => whnf
 refine Br.od h (fun p1 h => ?_) (fun p1 h => ?_)
 ·conv => whnf
  refine Len.map ?_
  conv => whnf
  refine Ask.o h fun p2 h => ?_
  conv => whnf
  refine Elem.o (by first | omega | (simp [Bh] at * <;> omega)) ?_
  conv => whnf
  refine Ask.o h fun p3 h => ?_
  conv => whnf
  refine Ask.o h fun p4 h => ?_
  conv => whnf
  refine Ask.o h fun p5 h => ?_
  conv => whnf
  cases h; exact ⟨rfl, rfl⟩
 conv => whnf
 cases h; exact ⟨rfl, rfl⟩
noncomputable def Jh (args0 : (List Int)) (n0 : Int) : Option Int :=
 (Ar (D0 args0 n0) ((0 : Int), (0 : Int))).bind fun q6_5 =>
 some q6_5
theorem Ago {args0 : (List Int)} {n0 : Int} {v : Int} (h : Jh args0 n0 = some v) : Ret Try.prog Qd [(slr false 1 Ae) args0, Ae n0] (Ae v) := by
 refine Bg Ahw (Nat.le_of_ble_eq_true rfl) ?_
 unfold Jh at h
 conv => whnf
 refine Len.map ?_
 conv => whnf
 refine LoopQ.o [10, 9, 8, 5, 1] (Ln args0 n0) (Rn args0 n0) h (fun s o h => Abb s o h) (by rfl) (fun _ => rfl) ?_
 rintro q6_5 h
 try dsimp only at h
 conv => whnf
 cases h; exact (by rfl)
noncomputable def Jq (l0 : (List Int)) : Option (List Int) :=
 ask ((Ao Int).length + (l0).length ≤ LIM) <|
 some (Ao Int ++ l0)
theorem Aa5 {l0 : (List Int)} {v : (List Int)} (h : Jq l0 = some v) : Ret Try.prog O6 [(slr false 1 Ae) l0] ((slr true 1 Ae) v) := by
 refine Bg Al8 (Nat.le_of_ble_eq_true rfl) ?_
 unfold Jq at h
 conv => whnf
 refine BslQ.o Ae (Ao Int) (by exact fun _ => ⟨rfl, rfl⟩) (by rfl) ?_
 conv => whnf
 refine AppQ.o (m := 1) Ae (by exact fun _ => ⟨rfl, rfl⟩) (Ao Int) (l0) (by rfl) (by rfl) h fun h => ?_
 conv => whnf
 cases h; exact (by rfl)
noncomputable def Jp (list0 : (List Int)) : Option (List Int) :=
 ask ((Ao Int).length + (list0).length ≤ LIM) <|
 some (Ao Int ++ list0)
theorem Ls {list0 : (List Int)} {v : (List Int)} (h : Jp list0 = some v) : Ret Try.prog H3 [(slr false 1 Ae) list0] ((slr true 1 Ae) v) := by
 refine Bg Alo (Nat.le_of_ble_eq_true rfl) ?_
 unfold Jp at h
 conv => whnf
 refine BslQ.o Ae (Ao Int) (by exact fun _ => ⟨rfl, rfl⟩) (by rfl) ?_
 conv => whnf
 refine AppQ.o (m := 1) Ae (by exact fun _ => ⟨rfl, rfl⟩) (Ao Int) (list0) (by rfl) (by rfl) h fun h => ?_
 conv => whnf
 cases h; exact (by rfl)
noncomputable def E2 (c0 : Sl1Cur) : Option (Int × Sl1Cur) :=
 ((if c0.at_ < (↑c0.code.length : Int) then
 ask ((0 : Int) ≤ c0.at_ ∧ c0.at_ < (↑c0.code.length : Int)) <|
 some (IntKind.i64.wrap (nth c0.code c0.at_.toNat))
 else
 some (0 : Int) : Option Int)).bind fun q3_3 =>
 ask (InI (c0.at_ + (1 : Int))) <|
 if c0.at_ + (1 : Int) ≤ (↑c0.code.length : Int) then
 some (q3_3, { code := c0.code, at_ := c0.at_ + (1 : Int), seed := IntKind.u64.wrap (IntKind.u64.wrap (IntKind.u64.wrap (c0.seed * (6364136223846793005 : Int)) + IntKind.u64.wrap q3_3) + (550289 : Int)) })
 else
 some (IntKind.i64.wrap (IntKind.u64.wrap (↑(BitVec.ofInt IntKind.u64.bits ((IntKind.u64.wrap (IntKind.u64.wrap (IntKind.u64.wrap (c0.seed * (6364136223846793005 : Int)) + IntKind.u64.wrap q3_3) + (550289 : Int))).fdiv ((2 : Int) ^ min (Int.toNat (40 : Int)) IntKind.u64.bits)) &&& BitVec.ofInt IntKind.u64.bits (255 : Int)).toNat : Int)), { code := c0.code, at_ := c0.at_ + (1 : Int), seed := IntKind.u64.wrap (IntKind.u64.wrap (IntKind.u64.wrap (c0.seed * (6364136223846793005 : Int)) + IntKind.u64.wrap q3_3) + (550289 : Int)) })
theorem Q8 {c0 : Sl1Cur} {v : (Int × Sl1Cur)} (h : E2 c0 = some v) : Sm Try.prog Ip [(rP true (Ak false)) c0] (Ae v.1) 0 ((rP true (Ak false)) v.2) := by
 refine Oz Abv (Nat.le_of_ble_eq_true rfl) ?_
 unfold E2 at h
 conv => whnf
 refine CutQ.o (fun t : Int => match t with | s => (Ex.normal, [3, 0, 62], [(3, A.val (Ae s)), (0, A.ref 62 []), (62, A.val ((rP true (Ak false)) (c0)))])) h ?_ ?_
 ·intro t h
  conv => whnf
  refine Cells.lit rfl rfl ?_
  conv => whnf
  refine Cells.lit rfl rfl ?_
  conv => whnf
  refine Len.map ?_
  conv => whnf
  refine Br.od h (fun p1 h => ?_) (fun p1 h => ?_)
  ·conv => whnf
   refine Cells.lit rfl rfl ?_
   conv => whnf
   refine Cells.lit rfl rfl ?_
   conv => whnf
   refine Len.map ?_
   conv => whnf
   refine Ask.o h fun p2 h => ?_
   conv => whnf
   refine Elem.o (by first | omega | (simp [Bh] at * <;> omega)) ?_
   conv => whnf
   cases h; exact ⟨rfl, rfl⟩
  conv => whnf
  cases h; exact ⟨rfl, rfl⟩
 rintro q3_3 h
 try dsimp only at h
 conv => whnf
 refine Cells.lit rfl rfl ?_
 conv => whnf
 refine Ask.o h fun p4 h => ?_
 conv => whnf
 refine SetKids.lit rfl ?_
 conv => whnf
 refine Cells.lit rfl rfl ?_
 conv => whnf
 refine SetKids.lit rfl ?_
 conv => whnf
 refine Cells.lit rfl rfl ?_
 conv => whnf
 refine Cells.lit rfl rfl ?_
 conv => whnf
 refine Len.map ?_
 conv => whnf
 refine Br.od h (fun p5 h => ?_) (fun p5 h => ?_)
 ·conv => whnf
  cases h; exact ⟨(by rfl), (by rfl)⟩
 conv => whnf
 refine Cells.lit rfl rfl ?_
 conv => whnf
 cases h; exact ⟨(by rfl), (by rfl)⟩
noncomputable def I6 (a0 : Int) (b0 : Int) : Option Int :=
 if a0 < b0 then
 some a0
 else
 some b0
theorem Ah5 {a0 : Int} {b0 : Int} {v : Int} (h : I6 a0 b0 = some v) : Ret Try.prog Qe [Ae a0, Ae b0] (Ae v) := by
 refine Bg Ahc (Nat.le_of_ble_eq_true rfl) ?_
 unfold I6 at h
 conv => whnf
 refine Br.od h (fun p1 h => ?_) (fun p1 h => ?_)
 ·conv => whnf
  cases h; exact (by rfl)
 conv => whnf
 cases h; exact (by rfl)
noncomputable def Dx (f0 : List Int) (g0 : List Int) : (Int × (List Int)) → Option ((Int × (List Int)) ⊕ (List Int)) := fun (x13, x5) =>
 if x13 < (↑f0.length : Int) then
 ask ((0 : Int) ≤ x13 ∧ x13 < (↑f0.length : Int)) <|
 ask ((0 : Int) ≤ nth f0 x13.toNat ∧ nth f0 x13.toNat < (↑g0.length : Int)) <|
 ask ((0 : Int) ≤ x13 ∧ x13 < (↑x5.length : Int)) <|
 ask (InI (x13 + (1 : Int))) <|
 some (.inl (x13 + (1 : Int), x5.set x13.toNat (nth g0 (nth f0 x13.toNat).toNat)))
 else
 some (.inr x5)
def L0 (f0 : List Int) (g0 : List Int) : (Int × (List Int)) → St := fun s => [(13, A.val (Ae s.1)), (12, A.val (Ae ((↑f0.length : Int)))), (11, A.val ((slr false 1 Ae) (f0))), (5, A.val ((slr true 1 Ae) s.2)), (1, A.val ((slr false 1 Ae) (g0)))]
def Re (_f0 : List Int) (_g0 : List Int) : (List Int) → Tgt
 | s => ((Ex.exit 0), [5], [(5, A.val ((slr true 1 Ae) s))])
theorem Aa9 {f0 : List Int} {g0 : List Int} (s : (Int × (List Int))) (o : (Int × (List Int)) ⊕ (List Int)) (h : Dx f0 g0 s = some o) : vc Try.prog Rh (Dy [13, 12, 11, 5, 1] (L0 f0 g0) (Re f0 g0) o) (L0 f0 g0 s) := by
 obtain ⟨x13, x5⟩ := s
 unfold Dx at h
 try dsimp only at h
 conv => whnf
 refine Br.od h (fun p2 h => ?_) (fun p2 h => ?_)
 ·conv => whnf
  refine Len.map ?_
  conv => whnf
  refine Ask.o h fun p3 h => ?_
  conv => whnf
  refine Elem.o (by first | omega | (simp [Bh] at * <;> omega)) ?_
  conv => whnf
  refine Len.map ?_
  conv => whnf
  refine Ask.o h fun p4 h => ?_
  conv => whnf
  refine Elem.o (by first | omega | (simp [Bh] at * <;> omega)) ?_
  conv => whnf
  refine Len.map ?_
  conv => whnf
  refine Ask.o h fun p5 h => ?_
  conv => whnf
  refine SetKids.one (fun _ => ⟨rfl, rfl⟩) (nth g0 (nth f0 x13.toNat).toNat) (by rfl) (by first | omega | (simp [Bh] at * <;> omega)) ?_
  conv => whnf
  refine Ask.o h fun p6 h => ?_
  conv => whnf
  cases h; exact ⟨rfl, rfl⟩
 conv => whnf
 cases h; exact ⟨rfl, rfl⟩
noncomputable def I2 (f0 : (List Int)) (g0 : (List Int)) : Option (List Int) :=
 ask ((0 : Int) ≤ (↑f0.length : Int) ∧ (↑f0.length : Int) ≤ (↑LIM : Int)) <|
 (Ar (Dx f0 g0) ((0 : Int), List.replicate (↑f0.length : Int).toNat (0 : Int))).bind fun q7_5 =>
 some q7_5
theorem Agt {f0 : (List Int)} {g0 : (List Int)} {v : (List Int)} (h : I2 f0 g0 = some v) : Ret Try.prog Pl [(slr false 1 Ae) f0, (slr false 1 Ae) g0] ((slr true 1 Ae) v) := by
 refine Bg Af8 (Nat.le_of_ble_eq_true rfl) ?_
 unfold I2 at h
 conv => whnf
 refine Len.map ?_
 conv => whnf
 refine Ask.o h fun p1 h => ?_
 conv => whnf
 refine MkQ.o Ae ((0 : Int)) rfl ?_
 conv => whnf
 refine Len.map ?_
 conv => whnf
 refine LoopQ.o [13, 12, 11, 5, 1] (L0 f0 g0) (Re f0 g0) h (fun s o h => Aa9 s o h) (by rfl) (fun _ => rfl) ?_
 rintro q7_5 h
 try dsimp only at h
 conv => whnf
 cases h; exact (by rfl)
noncomputable def Ei (n0 : Int) : (Int × (List Int) × Int) → Option ((Int × (List Int) × Int) ⊕ (List Int)) := fun (x8, x7, x2) =>
 if x8 ≥ (0 : Int) then
 ask (n0 ≠ (0 : Int)) <|
 ask ((0 : Int) ≤ x8 ∧ x8 < (↑x7.length : Int)) <|
 ask (n0 ≠ (0 : Int) ∧ InI (x2.tdiv n0)) <|
 ask (InI (x8 - (1 : Int))) <|
 some (.inl (x8 - (1 : Int), x7.set x8.toNat (x2.tmod n0), x2.tdiv n0))
 else
 some (.inr x7)
def M3 (n0 : Int) : (Int × (List Int) × Int) → St := fun s => [(8, A.val (Ae s.1)), (7, A.val ((slr true 1 Ae) s.2.1)), (0, A.val (Ae (n0))), (2, A.val (Ae s.2.2))]
def Tn (_n0 : Int) : (List Int) → Tgt
 | s => ((Ex.exit 0), [7], [(7, A.val ((slr true 1 Ae) s))])
theorem Ack {n0 : Int} (s : (Int × (List Int) × Int)) (o : (Int × (List Int) × Int) ⊕ (List Int)) (h : Ei n0 s = some o) : vc Try.prog Tq (Dy [8, 7, 0, 2] (M3 n0) (Tn n0) o) (M3 n0 s) := by
 obtain ⟨x8, x7, x2⟩ := s
 unfold Ei at h
 try dsimp only at h
 conv => whnf
 refine Br.od h (fun p3 h => ?_) (fun p3 h => ?_)
 ·conv => whnf
  refine Ask.o h fun p4 h => ?_
  conv => whnf
  refine Len.map ?_
  conv => whnf
  refine Ask.o h fun p5 h => ?_
  conv => whnf
  refine SetKids.one (fun _ => ⟨rfl, rfl⟩) (x2.tmod n0) (by rfl) (by first | omega | (simp [Bh] at * <;> omega)) ?_
  conv => whnf
  refine Ask.o h fun p6 h => ?_
  conv => whnf
  refine Ask.o h fun p7 h => ?_
  conv => whnf
  cases h; exact ⟨rfl, rfl⟩
 conv => whnf
 cases h; exact ⟨rfl, rfl⟩
noncomputable def Gx (n0 : Int) (arity0 : Int) (at0 : Int) : Option (List Int) :=
 ask ((0 : Int) ≤ arity0 ∧ arity0 ≤ (↑LIM : Int)) <|
 ask (InI (arity0 - (1 : Int))) <|
 (Ar (Ei n0) (arity0 - (1 : Int), List.replicate arity0.toNat (0 : Int), at0)).bind fun q8_7 =>
 some q8_7
theorem Zg {n0 : Int} {arity0 : Int} {at0 : Int} {v : (List Int)} (h : Gx n0 arity0 at0 = some v) : Ret Try.prog Nb [Ae n0, Ae arity0, Ae at0] ((slr true 1 Ae) v) := by
 refine Bg Ai7 (Nat.le_of_ble_eq_true rfl) ?_
 unfold Gx at h
 conv => whnf
 refine Ask.o h fun p1 h => ?_
 conv => whnf
 refine MkQ.o Ae ((0 : Int)) rfl ?_
 conv => whnf
 refine Ask.o h fun p2 h => ?_
 conv => whnf
 refine LoopQ.o [8, 7, 0, 2] (M3 n0) (Tn n0) h (fun s o h => Ack s o h) (by rfl) (fun _ => rfl) ?_
 rintro q8_7 h
 try dsimp only at h
 conv => whnf
 cases h; exact (by rfl)
noncomputable def F3 (s0 : ByteArray) : (Int × SOp) → Option ((Int × SOp) ⊕ SOp) := fun (x4, x3) =>
 if x4 < (↑s0.size : Int) then
 ask ((0 : Int) ≤ x4 ∧ x4 < (↑s0.size : Int)) <|
 ask ((x3.Table).length + ([IntKind.i64.wrap (IntKind.u8.wrap (Ad6 s0 x4 - (48 : Int)))]).length ≤ LIM) <|
 ask (InI (x4 + (1 : Int))) <|
 some (.inl (x4 + (1 : Int), { Arity := x3.Arity, Table := x3.Table ++ [IntKind.i64.wrap (IntKind.u8.wrap (Ad6 s0 x4 - (48 : Int)))] }))
 else
 some (.inr x3)
def Kx (s0 : ByteArray) : (Int × SOp) → St := fun s => [(4, A.val (Ae s.1)), (3, A.val ((rP true (Ai true)) s.2)), (2, A.val ((rP true (Ai true)) ({ Arity := (0 : Int), Table := Ao Int }))), (0, A.val (V.str (s0)))]
def Qr (_s0 : ByteArray) : SOp → Tgt
 | s => ((Ex.exit 0), [3, 2], [(3, A.val ((rP true (Ai true)) s)), (2, A.val ((rP true (Ai true)) ({ Arity := (0 : Int), Table := Ao Int })))])
theorem Zq {s0 : ByteArray} (s : (Int × SOp)) (o : (Int × SOp) ⊕ SOp) (h : F3 s0 s = some o) : vc Try.prog Qi (Dy [4, 3, 2, 0] (Kx s0) (Qr s0) o) (Kx s0 s) := by
 obtain ⟨x4, x3⟩ := s
 unfold F3 at h
 try dsimp only at h
 conv => whnf
 refine Br.od h (fun p1 h => ?_) (fun p1 h => ?_)
 ·conv => whnf
  refine Cells.lit rfl rfl ?_
  conv => whnf
  refine Ask.o h fun p2 h => ?_
  conv => whnf
  refine BslQ.o Ae ([IntKind.i64.wrap (IntKind.u8.wrap (Ad6 s0 x4 - (48 : Int)))]) (by exact fun _ => ⟨rfl, rfl⟩) (by rfl) ?_
  conv => whnf
  refine NoOwn.o (fun _ => rfl) ?_
  conv => whnf
  refine Kid.lit rfl rfl ?_
  conv => whnf
  refine Kid.lit rfl rfl ?_
  conv => whnf
  refine SetKids.lit rfl ?_
  conv => whnf
  refine AppQ.o (m := 1) Ae (by exact fun _ => ⟨rfl, rfl⟩) (x3.Table) ([IntKind.i64.wrap (IntKind.u8.wrap (Ad6 s0 x4 - (48 : Int)))]) (by rfl) (by rfl) h fun h => ?_
  conv => whnf
  refine SetKids.lit rfl ?_
  conv => whnf
  refine Ask.o h fun p3 h => ?_
  conv => whnf
  cases h; exact ⟨rfl, rfl⟩
 conv => whnf
 cases h; exact ⟨rfl, rfl⟩
noncomputable def Ba (s0 : ByteArray) : Option SOp :=
 (Ar (F3 s0) ((0 : Int), { Arity := (2 : Int), Table := Ao Int })).bind fun q4_3 =>
 some q4_3
theorem Bo {s0 : ByteArray} {v : SOp} (h : Ba s0 = some v) : Ret Try.prog Bj [V.str s0] ((Ai true) v) := by
 refine Bg Afh (Nat.le_of_ble_eq_true rfl) ?_
 unfold Ba at h
 conv => whnf
 refine SetKids.lit rfl ?_
 conv => whnf
 refine LoopQ.o [4, 3, 2, 0] (Kx s0) (Qr s0) h (fun s o h => Zq s o h) (by rfl) (fun _ => rfl) ?_
 rintro q4_3 h
 try dsimp only at h
 conv => whnf
 refine Cells.lit rfl rfl ?_
 conv => whnf
 refine SetKids.lit rfl ?_
 conv => whnf
 cases h; exact (by rfl)
noncomputable def Fv (n0 : Int) : (Int × SOp) → Option ((Int × SOp) ⊕ SOp) := fun (x4, x3) =>
 ask (InI (n0 * n0)) <|
 ask (InI (n0 * n0 * n0)) <|
 if x4 < n0 * n0 * n0 then
 ask (InI (n0 * n0)) <|
 ask (n0 * n0 ≠ (0 : Int) ∧ InI (x4.tdiv (n0 * n0))) <|
 ask (InI (x4.tdiv (n0 * n0) + n0)) <|
 ask (n0 ≠ (0 : Int) ∧ InI (x4.tdiv n0)) <|
 ask (n0 ≠ (0 : Int)) <|
 ask (InI (x4.tdiv (n0 * n0) + n0 - (x4.tdiv n0).tmod n0)) <|
 ask (n0 ≠ (0 : Int)) <|
 ask (InI (x4.tdiv (n0 * n0) + n0 - (x4.tdiv n0).tmod n0 + x4.tmod n0)) <|
 ask (n0 ≠ (0 : Int)) <|
 ask ((x3.Table).length + ([(x4.tdiv (n0 * n0) + n0 - (x4.tdiv n0).tmod n0 + x4.tmod n0).tmod n0]).length ≤ LIM) <|
 ask (InI (x4 + (1 : Int))) <|
 some (.inl (x4 + (1 : Int), { Arity := x3.Arity, Table := x3.Table ++ [(x4.tdiv (n0 * n0) + n0 - (x4.tdiv n0).tmod n0 + x4.tmod n0).tmod n0] }))
 else
 some (.inr x3)
def Kv (n0 : Int) : (Int × SOp) → St := fun s => [(4, A.val (Ae s.1)), (3, A.val ((rP true (Ai true)) s.2)), (2, A.val ((rP true (Ai true)) ({ Arity := (0 : Int), Table := Ao Int }))), (0, A.val (Ae (n0)))]
def Pi (_n0 : Int) : SOp → Tgt
 | s => ((Ex.exit 0), [3, 2], [(3, A.val ((rP true (Ai true)) s)), (2, A.val ((rP true (Ai true)) ({ Arity := (0 : Int), Table := Ao Int })))])
theorem Zz {n0 : Int} (s : (Int × SOp)) (o : (Int × SOp) ⊕ SOp) (h : Fv n0 s = some o) : vc Try.prog Pv (Dy [4, 3, 2, 0] (Kv n0) (Pi n0) o) (Kv n0 s) := by
 obtain ⟨x4, x3⟩ := s
 unfold Fv at h
 try dsimp only at h
 conv => whnf
 refine Ask.o h fun p1 h => ?_
 conv => whnf
 refine Ask.o h fun p2 h => ?_
 conv => whnf
 refine Br.od h (fun p3 h => ?_) (fun p3 h => ?_)
 ·conv => whnf
  refine Cells.lit rfl rfl ?_
  conv => whnf
  refine Ask.o h fun p4 h => ?_
  conv => whnf
  refine Ask.o h fun p5 h => ?_
  conv => whnf
  refine Ask.o h fun p6 h => ?_
  conv => whnf
  refine Ask.o h fun p7 h => ?_
  conv => whnf
  refine Ask.o h fun p8 h => ?_
  conv => whnf
  refine Ask.o h fun p9 h => ?_
  conv => whnf
  refine Ask.o h fun p10 h => ?_
  conv => whnf
  refine Ask.o h fun p11 h => ?_
  conv => whnf
  refine Ask.o h fun p12 h => ?_
  conv => whnf
  refine BslQ.o Ae ([(x4.tdiv (n0 * n0) + n0 - (x4.tdiv n0).tmod n0 + x4.tmod n0).tmod n0]) (by exact fun _ => ⟨rfl, rfl⟩) (by rfl) ?_
  conv => whnf
  refine NoOwn.o (fun _ => rfl) ?_
  conv => whnf
  refine Kid.lit rfl rfl ?_
  conv => whnf
  refine Kid.lit rfl rfl ?_
  conv => whnf
  refine SetKids.lit rfl ?_
  conv => whnf
  refine AppQ.o (m := 1) Ae (by exact fun _ => ⟨rfl, rfl⟩) (x3.Table) ([(x4.tdiv (n0 * n0) + n0 - (x4.tdiv n0).tmod n0 + x4.tmod n0).tmod n0]) (by rfl) (by rfl) h fun h => ?_
  conv => whnf
  refine SetKids.lit rfl ?_
  conv => whnf
  refine Ask.o h fun p13 h => ?_
  conv => whnf
  cases h; exact ⟨rfl, rfl⟩
 conv => whnf
 cases h; exact ⟨rfl, rfl⟩
noncomputable def Gf (n0 : Int) : Option SOp :=
 (Ar (Fv n0) ((0 : Int), { Arity := (3 : Int), Table := Ao Int })).bind fun q14_3 =>
 some q14_3
theorem Ve {n0 : Int} {v : SOp} (h : Gf n0 = some v) : Ret Try.prog Kn [Ae n0] ((Ai true) v) := by
 refine Bg Aeq (Nat.le_of_ble_eq_true rfl) ?_
 unfold Gf at h
 conv => whnf
 refine SetKids.lit rfl ?_
 conv => whnf
 refine LoopQ.o [4, 3, 2, 0] (Kv n0) (Pi n0) h (fun s o h => Zz s o h) (by rfl) (fun _ => rfl) ?_
 rintro q14_3 h
 try dsimp only at h
 conv => whnf
 refine Cells.lit rfl rfl ?_
 conv => whnf
 refine SetKids.lit rfl ?_
 conv => whnf
 cases h; exact (by rfl)
noncomputable def Ca (known0 : Int) (arity0 : Int) (before0 : Int) : (Int × Int) → Option ((Int × Int) ⊕ (Unit ⊕ Unit)) := fun (x9, x2) =>
 if x9 < arity0 then
 ask (known0 ≠ (0 : Int)) <|
 if x2.tmod known0 ≥ before0 then
 some (.inr (.inl ()))
 else
 ask (known0 ≠ (0 : Int) ∧ InI (x2.tdiv known0)) <|
 ask (InI (x9 + (1 : Int))) <|
 some (.inl (x9 + (1 : Int), x2.tdiv known0))
 else
 some (.inr (.inr ()))
def K0 (known0 : Int) (arity0 : Int) (before0 : Int) : (Int × Int) → St := fun s => [(9, A.val (Ae s.1)), (0, A.val (Ae (known0))), (1, A.val (Ae (arity0))), (2, A.val (Ae s.2)), (3, A.val (Ae (before0)))]
def Qj (_known0 : Int) (_arity0 : Int) (before0 : Int) : (Unit ⊕ Unit) → Tgt
 | (.inl _s) => (Ex.ret, [8], [(8, A.val (V.bool (true)))])
 | (.inr _s) => ((Ex.exit 0), [3], [(3, A.val (Ae (before0)))])
theorem Zw {known0 : Int} {arity0 : Int} {before0 : Int} (s : (Int × Int)) (o : (Int × Int) ⊕ (Unit ⊕ Unit)) (h : Ca known0 arity0 before0 s = some o) : vc Try.prog Qf (Dy [9, 0, 1, 2, 3] (K0 known0 arity0 before0) (Qj known0 arity0 before0) o) (K0 known0 arity0 before0 s) := by
 obtain ⟨x9, x2⟩ := s
 unfold Ca at h
 try dsimp only at h
 conv => whnf
 refine Br.od h (fun p1 h => ?_) (fun p1 h => ?_)
 ·conv => whnf
  refine Ask.o h fun p2 h => ?_
  conv => whnf
  refine Br.od h (fun p3 h => ?_) (fun p3 h => ?_)
  ·conv => whnf
   cases h; exact ⟨rfl, rfl⟩
  conv => whnf
  refine Ask.o h fun p4 h => ?_
  conv => whnf
  refine Ask.o h fun p5 h => ?_
  conv => whnf
  cases h; exact ⟨rfl, rfl⟩
 conv => whnf
 cases h; exact ⟨rfl, rfl⟩
noncomputable def H9 (known0 : Int) (arity0 : Int) (at0 : Int) (before0 : Int) : Option Bool :=
 (Ar (Ca known0 arity0 before0) ((0 : Int), at0)).bind fun t => match t with
 | (.inl _) => (some true)
 | (.inr _) => (some (before0 == (0 : Int)))
theorem Afc {known0 : Int} {arity0 : Int} {at0 : Int} {before0 : Int} {v : Bool} (h : H9 known0 arity0 at0 before0 = some v) : Ret Try.prog N7 [Ae known0, Ae arity0, Ae at0, Ae before0] (V.bool v) := by
 refine Bg Aen (Nat.le_of_ble_eq_true rfl) ?_
 unfold H9 at h
 conv => whnf
 refine LoopQ.o [9, 0, 1, 2, 3] (K0 known0 arity0 before0) (Qj known0 arity0 before0) h (fun s o h => Zw s o h) (by rfl) (by rintro (_ | _) <;> rfl) ?_
 rintro (⟨⟩ | ⟨⟩) h
 ·try dsimp only at h
  conv => whnf
  cases h; exact (by rfl)
 try dsimp only at h
 conv => whnf
 cases h; exact (by rfl)
noncomputable def H4 (a0 : SOp) (b0 : SOp) : Option Bool :=
 if a0.Arity = b0.Arity then
 (Gn (a0.Table) (b0.Table)).bind fun r2 =>
 some r2
 else
 some false
theorem Z8 {a0 : SOp} {b0 : SOp} {v : Bool} (h : H4 a0 b0 = some v) : Ret Try.prog Ps [(Ai false) a0, (Ai false) b0] (V.bool v) := by
 refine Bg Aqn (Nat.le_of_ble_eq_true rfl) ?_
 unfold H4 at h
 conv => whnf
 refine Cells.lit rfl rfl ?_
 conv => whnf
 refine Cells.lit rfl rfl ?_
 conv => whnf
 refine Br.oe h (fun p1 h => ?_) (fun p1 h => ?_)
 ·conv => whnf
  refine Br.yes ?_
  conv => whnf
  refine Cells.lit rfl rfl ?_
  conv => whnf
  refine Br.yes ?_
  conv => whnf
  refine Br.yes ?_
  conv => whnf
  refine Cells.lit rfl rfl ?_
  conv => whnf
  refine Br.yes ?_
  conv => whnf
  refine CallQ.o V.bool (by rfl) h (fun r h => Abi h) (fun r2 h => ?_)
  conv => whnf
  refine Br.yes ?_
  conv => whnf
  cases h; exact (by rfl)
 conv => whnf
 refine Br.no ?_
 conv => whnf
 refine Br.no ?_
 conv => whnf
 refine Br.no ?_
 conv => whnf
 refine Br.no ?_
 conv => whnf
 refine Br.no ?_
 conv => whnf
 cases h; exact (by rfl)
noncomputable def C6 (f0 : SOp) (n0 : Int) : Option Bool :=
 if f0.Arity ≥ (0 : Int) then
 if f0.Arity ≤ (3 : Int) then
 (Ck (n0) (f0.Arity)).bind fun r3 =>
 if (↑f0.Table.length : Int) = r3 then
 (Ig (f0.Table) (n0)).bind fun r5 =>
 some r5
 else
 some false
 else
 some false
 else
 some false
theorem Hq {f0 : SOp} {n0 : Int} {v : Bool} (h : C6 f0 n0 = some v) : Ret Try.prog Gj [(Ai false) f0, Ae n0] (V.bool v) := by
 refine Bg Anp (Nat.le_of_ble_eq_true rfl) ?_
 unfold C6 at h
 conv => whnf
 refine Cells.lit rfl rfl ?_
 conv => whnf
 refine Br.od h (fun p1 h => ?_) (fun p1 h => ?_)
 ·conv => whnf
  refine Br.yes ?_
  conv => whnf
  refine Cells.lit rfl rfl ?_
  conv => whnf
  refine Br.yes ?_
  conv => whnf
  refine Br.yes ?_
  conv => whnf
  refine Br.od h (fun p2 h => ?_) (fun p2 h => ?_)
  ·conv => whnf
   refine Br.yes ?_
   conv => whnf
   refine Cells.lit rfl rfl ?_
   conv => whnf
   refine Br.yes ?_
   conv => whnf
   refine Len.map ?_
   conv => whnf
   refine Br.yes ?_
   conv => whnf
   refine Br.yes ?_
   conv => whnf
   refine Br.yes ?_
   conv => whnf
   refine Cells.lit rfl rfl ?_
   conv => whnf
   refine Br.yes ?_
   conv => whnf
   refine CallP.o Ae (by rfl) h (fun r h => Gq h) (fun r3 h => ?_)
   conv => whnf
   refine Br.yes ?_
   conv => whnf
   refine Br.yes ?_
   conv => whnf
   refine Br.oe h (fun p4 h => ?_) (fun p4 h => ?_)
   ·conv => whnf
    refine Br.yes ?_
    conv => whnf
    refine Cells.lit rfl rfl ?_
    conv => whnf
    refine Br.yes ?_
    conv => whnf
    refine Br.yes ?_
    conv => whnf
    refine CallQ.o V.bool (by rfl) h (fun r h => Zc h) (fun r5 h => ?_)
    conv => whnf
    refine Br.yes ?_
    conv => whnf
    cases h; exact (by rfl)
   conv => whnf
   refine Br.no ?_
   conv => whnf
   refine Br.no ?_
   conv => whnf
   refine Br.no ?_
   conv => whnf
   refine Br.no ?_
   conv => whnf
   cases h; exact (by rfl)
  conv => whnf
  refine Br.no ?_
  conv => whnf
  refine Br.no ?_
  conv => whnf
  refine Br.no ?_
  conv => whnf
  refine Br.no ?_
  conv => whnf
  refine Br.no ?_
  conv => whnf
  refine Br.no ?_
  conv => whnf
  refine Br.no ?_
  conv => whnf
  refine Br.no ?_
  conv => whnf
  refine Br.no ?_
  conv => whnf
  refine Br.no ?_
  conv => whnf
  refine Br.no ?_
  conv => whnf
  refine Br.no ?_
  conv => whnf
  refine Br.no ?_
  conv => whnf
  cases h; exact (by rfl)
 conv => whnf
 refine Br.no ?_
 conv => whnf
 refine Br.no ?_
 conv => whnf
 refine Br.no ?_
 conv => whnf
 refine Br.no ?_
 conv => whnf
 refine Br.no ?_
 conv => whnf
 refine Br.no ?_
 conv => whnf
 refine Br.no ?_
 conv => whnf
 refine Br.no ?_
 conv => whnf
 refine Br.no ?_
 conv => whnf
 refine Br.no ?_
 conv => whnf
 refine Br.no ?_
 conv => whnf
 refine Br.no ?_
 conv => whnf
 refine Br.no ?_
 conv => whnf
 refine Br.no ?_
 conv => whnf
 refine Br.no ?_
 conv => whnf
 refine Br.no ?_
 conv => whnf
 refine Br.no ?_
 conv => whnf
 cases h; exact (by rfl)
noncomputable def Bt (tables0 : List (List Int)) (t0 : List Int) : Int → Option (Int ⊕ (Int ⊕ Unit)) := fun x5 =>
 if x5 < (↑tables0.length : Int) then
 ask ((0 : Int) ≤ x5 ∧ x5 < (↑tables0.length : Int)) <|
 (Ie (nth tables0 x5.toNat) (t0)).bind fun r3 =>
 if (r3) = true then
 some (.inr (.inl x5))
 else
 ask (InI (x5 + (1 : Int))) <|
 some (.inl (x5 + (1 : Int)))
 else
 some (.inr (.inr ()))
def Kz (tables0 : List (List Int)) (t0 : List Int) : Int → St := fun s => [(5, A.val (Ae s)), (0, A.val ((slr false 1 (slr false 1 Ae)) (tables0))), (1, A.val ((slr false 1 Ae) (t0)))]
def Py (_tables0 : List (List Int)) (_t0 : List Int) : (Int ⊕ Unit) → Tgt
 | (.inl s) => (Ex.ret, [4], [(4, A.val (Ae s))])
 | (.inr _s) => ((Ex.exit 0), [], [])
theorem Zp {tables0 : List (List Int)} {t0 : List Int} (x5 : Int) (o : Int ⊕ (Int ⊕ Unit)) (h : Bt tables0 t0 x5 = some o) : vc Try.prog Pw (Dy [5, 0, 1] (Kz tables0 t0) (Py tables0 t0) o) (Kz tables0 t0 x5) := by
 unfold Bt at h
 try dsimp only at h
 conv => whnf
 refine Len.map ?_
 conv => whnf
 refine Br.od h (fun p1 h => ?_) (fun p1 h => ?_)
 ·conv => whnf
  refine Len.map ?_
  conv => whnf
  refine Ask.o h fun p2 h => ?_
  conv => whnf
  refine Elem.o (by first | omega | (simp [Bh] at * <;> omega)) ?_
  conv => whnf
  refine CallQ.o V.bool (by rfl) h (fun r h => Y8 h) (fun r3 h => ?_)
  conv => whnf
  refine Br.ob h (fun p4 h => ?_) (fun p4 h => ?_)
  ·conv => whnf
   cases h; exact ⟨rfl, rfl⟩
  conv => whnf
  refine Ask.o h fun p5 h => ?_
  conv => whnf
  cases h; exact ⟨rfl, rfl⟩
 conv => whnf
 cases h; exact ⟨rfl, rfl⟩
noncomputable def D9 (tables0 : (List (List Int))) (t0 : (List Int)) : Option Int :=
 (Ar (Bt tables0 t0) (0 : Int)).bind fun t => match t with
 | (.inl q6_4) => (some q6_4)
 | (.inr _) => (some (-1 : Int))
theorem Vw {tables0 : (List (List Int))} {t0 : (List Int)} {v : Int} (h : D9 tables0 t0 = some v) : Ret Try.prog Ko [(slr false 1 (slr false 1 Ae)) tables0, (slr false 1 Ae) t0] (Ae v) := by
 refine Bg Aex (Nat.le_of_ble_eq_true rfl) ?_
 unfold D9 at h
 conv => whnf
 refine LoopQ.o [5, 0, 1] (Kz tables0 t0) (Py tables0 t0) h (fun s o h => Zp s o h) (by rfl) (by rintro (_ | _) <;> rfl) ?_
 rintro (q6_4 | ⟨⟩) h
 ·try dsimp only at h
  conv => whnf
  cases h; exact (by rfl)
 try dsimp only at h
 conv => whnf
 cases h; exact (by rfl)
noncomputable def Ff (n0 : Int) (k0 : Int) : Option Bool :=
 if k0 ≥ (1 : Int) then
 if k0 ≤ (3 : Int) then
 (Ck (n0) (k0)).bind fun r3 =>
 some (decide (r3 ≤ (27 : Int)))
 else
 some false
 else
 some false
theorem Y1 {n0 : Int} {k0 : Int} {v : Bool} (h : Ff n0 k0 = some v) : Ret Try.prog J8 [Ae n0, Ae k0] (V.bool v) := by
 refine Bg Yo (Nat.le_of_ble_eq_true rfl) ?_
 unfold Ff at h
 conv => whnf
 refine Br.od h (fun p1 h => ?_) (fun p1 h => ?_)
 ·conv => whnf
  refine Br.yes ?_
  conv => whnf
  refine Br.yes ?_
  conv => whnf
  refine Br.od h (fun p2 h => ?_) (fun p2 h => ?_)
  ·conv => whnf
   refine Br.yes ?_
   conv => whnf
   refine Br.yes ?_
   conv => whnf
   refine CallQ.o Ae (by rfl) h (fun r h => Gq h) (fun r3 h => ?_)
   conv => whnf
   refine Br.yes ?_
   conv => whnf
   refine Br.yes ?_
   conv => whnf
   cases h; exact (by rfl)
  conv => whnf
  refine Br.no ?_
  conv => whnf
  refine Br.no ?_
  conv => whnf
  refine Br.no ?_
  conv => whnf
  refine Br.no ?_
  conv => whnf
  cases h; exact (by rfl)
 conv => whnf
 refine Br.no ?_
 conv => whnf
 refine Br.no ?_
 conv => whnf
 refine Br.no ?_
 conv => whnf
 refine Br.no ?_
 conv => whnf
 refine Br.no ?_
 conv => whnf
 refine Br.no ?_
 conv => whnf
 refine Br.no ?_
 conv => whnf
 cases h; exact (by rfl)
end Go.Proofs.Ytoaojijoefljaaa.Ax
