/-
 What the functions compute, as functions on plain data, and that the program does compute it; written by program.
-/
import Derived.Test.YtcpgnfohmeineaaCode
namespace Go.Proofs.Ytcpgnfohmeineaa.Ax
open Go
set_option maxRecDepth 100000
set_option maxHeartbeats 4000000
noncomputable def Bv (p0 : List Int) (x4 : Int) : (Int × SRelation) → Option ((Int × SRelation) ⊕ SRelation) := fun (x5, x3') =>
 if x5 < (↑p0.length : Int) then
 ask ((0 : Int) ≤ x4 ∧ x4 < (↑p0.length : Int)) <|
 ask ((0 : Int) ≤ x5 ∧ x5 < (↑p0.length : Int)) <|
 if nth p0 x4.toNat = nth p0 x5.toNat then
 ask ((x3'.Tuples).length + ([[x4, x5]]).length ≤ LIM) <|
 ask (InI (x5 + (1 : Int))) <|
 some (.inl (x5 + (1 : Int), { Arity := x3'.Arity, Tuples := x3'.Tuples ++ [[x4, x5]] }))
 else
 ask (InI (x5 + (1 : Int))) <|
 some (.inl (x5 + (1 : Int), x3'))
 else
 some (.inr x3')
def He (p0 : List Int) (x4 : Int) : (Int × SRelation) → St := fun s => [(5, A.val (Af s.1)), (4, A.val (Af (x4))), (3, A.val ((rP true (Am)) s.2)), (2, A.val ((rP true (Am)) ({ Arity := (0 : Int), Tuples := Av (List Int) }))), (0, A.val ((slr false 1 Af) (p0)))]
def K7 (p0 : List Int) (x4 : Int) : SRelation → Tgt
 | s => ((Ex.exit 2), [4, 3, 2, 0], [(4, A.val (Af (x4))), (3, A.val ((rP true (Am)) s)), (2, A.val ((rP true (Am)) ({ Arity := (0 : Int), Tuples := Av (List Int) }))), (0, A.val ((slr false 1 Af) (p0)))])
theorem Tr {p0 : List Int} {x4 : Int} (s : (Int × SRelation)) (o : (Int × SRelation) ⊕ SRelation) (h : Bv p0 x4 s = some o) : vc Try.prog Lc (Cu [5, 4, 3, 2, 0] (He p0 x4) (K7 p0 x4) o) (He p0 x4 s) := by
 obtain ⟨x5, x3'⟩ := s
 unfold Bv at h
 try dsimp only at h
 conv => whnf
 refine Len.map ?_
 conv => whnf
 refine Br.od h (fun p2 h => ?_) (fun p2 h => ?_)
 ·conv => whnf
  refine Len.map ?_
  conv => whnf
  refine Ask.o h fun p3 h => ?_
  conv => whnf
  refine Elem.o (by first | omega | (simp [Ap] at *; omega)) ?_
  conv => whnf
  refine Len.map ?_
  conv => whnf
  refine Ask.o h fun p4 h => ?_
  conv => whnf
  refine Elem.o (by first | omega | (simp [Ap] at *; omega)) ?_
  conv => whnf
  refine Br.oe h (fun p5 h => ?_) (fun p5 h => ?_)
  ·conv => whnf
   refine Cells.lit rfl rfl ?_
   conv => whnf
   refine BslQ.o Af ([x4, x5]) (by exact fun _ => ⟨rfl, rfl⟩) (by rfl) ?_
   conv => whnf
   refine FrzQ.d (V.sl false (1 : Nat) (List.map Af [x4, x5])) (by first | (simp only [A6, Ac]; done) | (simp [A6, V.fz, Ab, Ac, slr]; done) | (simp [A6, V.fz, fzL, Ab, slr]; done)) ?_
   conv => whnf
   refine BslQ.o (slr false 1 Af) ([[x4, x5]]) (by exact fun _ => ⟨rfl, rfl⟩) (by rfl) ?_
   conv => whnf
   refine NoOwn.o (fun _ => rfl) ?_
   conv => whnf
   refine Kid.lit rfl rfl ?_
   conv => whnf
   refine Kid.lit rfl rfl ?_
   conv => whnf
   refine SetKids.lit rfl ?_
   conv => whnf
   refine AppQ.o (m := 1) (slr false 1 Af) (by exact fun _ => ⟨rfl, rfl⟩) (x3'.Tuples) ([[x4, x5]]) (by rfl) (by rfl) h fun h => ?_
   conv => whnf
   refine SetKids.lit rfl ?_
   conv => whnf
   refine Ask.o h fun p6 h => ?_
   conv => whnf
   cases h; exact ⟨rfl, rfl⟩
  conv => whnf
  refine Ask.o h fun p7 h => ?_
  conv => whnf
  cases h; exact ⟨rfl, rfl⟩
 conv => whnf
 cases h; exact ⟨rfl, rfl⟩
noncomputable def Bw (p0 : List Int) : (Int × SRelation) → Option ((Int × SRelation) ⊕ SRelation) := fun (x4, x3) =>
 if x4 < (↑p0.length : Int) then
 (Al (Bv p0 x4) ((0 : Int), x3)).bind fun q8_3 =>
 ask (InI (x4 + (1 : Int))) <|
 some (.inl (x4 + (1 : Int), q8_3))
 else
 some (.inr x3)
def G8 (p0 : List Int) : (Int × SRelation) → St := fun s => [(4, A.val (Af s.1)), (3, A.val ((rP true (Am)) s.2)), (2, A.val ((rP true (Am)) ({ Arity := (0 : Int), Tuples := Av (List Int) }))), (0, A.val ((slr false 1 Af) (p0)))]
def K6 (_p0 : List Int) : SRelation → Tgt
 | s => ((Ex.exit 0), [3, 2], [(3, A.val ((rP true (Am)) s)), (2, A.val ((rP true (Am)) ({ Arity := (0 : Int), Tuples := Av (List Int) })))])
theorem Tb {p0 : List Int} (s : (Int × SRelation)) (o : (Int × SRelation) ⊕ SRelation) (h : Bw p0 s = some o) : vc Try.prog Kr (Cu [4, 3, 2, 0] (G8 p0) (K6 p0) o) (G8 p0 s) := by
 obtain ⟨x4, x3⟩ := s
 unfold Bw at h
 try dsimp only at h
 conv => whnf
 refine Len.map ?_
 conv => whnf
 refine Br.od h (fun p1 h => ?_) (fun p1 h => ?_)
 ·conv => whnf
  refine LoopQ.o [5, 4, 3, 2, 0] (He p0 x4) (K7 p0 x4) h (fun s o h => Tr s o h) (by rfl) (fun _ => rfl) ?_
  rintro q8_3 h
  try dsimp only at h
  conv => whnf
  refine Ask.o h fun p9 h => ?_
  conv => whnf
  cases h; exact ⟨rfl, rfl⟩
 conv => whnf
 cases h; exact ⟨rfl, rfl⟩
noncomputable def Bo (p0 : (List Int)) : Option SRelation :=
 (Al (Bw p0) ((0 : Int), { Arity := (2 : Int), Tuples := Av (List Int) })).bind fun q10_3 =>
 some q10_3
theorem Iz {p0 : (List Int)} {v : SRelation} (h : Bo p0 = some v) : Ret Try.prog Ec [(slr false 1 Af) p0] ((Am) v) := by
 refine A8 Xy (Nat.le_of_ble_eq_true rfl) ?_
 unfold Bo at h
 conv => whnf
 refine BslQ.o (slr true 1 Af) (Av (List Int)) (by exact fun _ => ⟨rfl, rfl⟩) (by rfl) ?_
 conv => whnf
 refine SetKids.lit rfl ?_
 conv => whnf
 refine LoopQ.o [4, 3, 2, 0] (G8 p0) (K6 p0) h (fun s o h => Tb s o h) (by rfl) (fun _ => rfl) ?_
 rintro q10_3 h
 try dsimp only at h
 conv => whnf
 refine Cells.lit rfl rfl ?_
 conv => whnf
 refine SetKids.lit rfl ?_
 conv => whnf
 cases h; exact (by rfl)
noncomputable def Dp (n0 : Int) (_r0 : SRelation) : (Int × (List (List Bool))) → Option ((Int × (List (List Bool))) ⊕ (List (List Bool))) := fun (x13, x5) =>
 if x13 < (↑n0.toNat : Int) then
 ask ((0 : Int) ≤ n0 ∧ n0 ≤ (↑LIM : Int)) <|
 ask ((0 : Int) ≤ x13 ∧ x13 < (↑x5.length : Int)) <|
 ask (InI (x13 + (1 : Int))) <|
 some (.inl (x13 + (1 : Int), x5.set x13.toNat (List.replicate n0.toNat false)))
 else
 some (.inr x5)
def Hs (n0 : Int) (r0 : SRelation) : (Int × (List (List Bool))) → St := fun s => [(13, A.val (Af s.1)), (12, A.val (Af ((↑n0.toNat : Int)))), (5, A.val ((slr true 1 (slr true 1 V.bool)) s.2)), (3, A.val ((rP true (Ai false)) (r0))), (0, A.val (Af (n0)))]
def Lt (_n0 : Int) (r0 : SRelation) : (List (List Bool)) → Tgt
 | s => ((Ex.exit 0), [5, 3], [(5, A.val ((slr true 1 (slr true 1 V.bool)) s)), (3, A.val ((rP true (Ai false)) (r0)))])
theorem Ul {n0 : Int} {r0 : SRelation} (s : (Int × (List (List Bool)))) (o : (Int × (List (List Bool))) ⊕ (List (List Bool))) (h : Dp n0 r0 s = some o) : vc Try.prog L2 (Cu [13, 12, 5, 3, 0] (Hs n0 r0) (Lt n0 r0) o) (Hs n0 r0 s) := by
 obtain ⟨x13, x5⟩ := s
 unfold Dp at h
 try dsimp only at h
 conv => whnf
 refine Br.od h (fun p2 h => ?_) (fun p2 h => ?_)
 ·conv => whnf
  refine Ask.o h fun p3 h => ?_
  conv => whnf
  refine MkQ.o V.bool (false) rfl ?_
  conv => whnf
  refine Len.map ?_
  conv => whnf
  refine Ask.o h fun p4 h => ?_
  conv => whnf
  refine SetKids.one (fun _ => ⟨rfl, rfl⟩) (List.replicate n0.toNat false) (by rfl) (by first | omega | (simp [Ap] at *; omega)) ?_
  conv => whnf
  refine Ask.o h fun p5 h => ?_
  conv => whnf
  cases h; exact ⟨rfl, rfl⟩
 conv => whnf
 cases h; exact ⟨rfl, rfl⟩
noncomputable def Do (r0 : SRelation) : (Int × (List (List Bool))) → Option ((Int × (List (List Bool))) ⊕ (List (List Bool))) := fun (x25, x5) =>
 if x25 < (↑r0.Tuples.length : Int) then
 ask ((0 : Int) ≤ x25 ∧ x25 < (↑r0.Tuples.length : Int)) <|
 ask ((0 : Int) ≤ (0 : Int) ∧ (0 : Int) < (↑(nth r0.Tuples x25.toNat).length : Int)) <|
 ask ((0 : Int) ≤ nth (nth r0.Tuples x25.toNat) (Int.toNat (0 : Int)) ∧ nth (nth r0.Tuples x25.toNat) (Int.toNat (0 : Int)) < (↑x5.length : Int)) <|
 ask ((0 : Int) ≤ (1 : Int) ∧ (1 : Int) < (↑(nth r0.Tuples x25.toNat).length : Int)) <|
 ask ((0 : Int) ≤ nth (nth r0.Tuples x25.toNat) (Int.toNat (1 : Int)) ∧ nth (nth r0.Tuples x25.toNat) (Int.toNat (1 : Int)) < (↑(nth x5 (nth (nth r0.Tuples x25.toNat) (Int.toNat (0 : Int))).toNat).length : Int)) <|
 ask (InI (x25 + (1 : Int))) <|
 some (.inl (x25 + (1 : Int), x5.set (nth (nth r0.Tuples x25.toNat) (Int.toNat (0 : Int))).toNat ((nth x5 (nth (nth r0.Tuples x25.toNat) (Int.toNat (0 : Int))).toNat).set (nth (nth r0.Tuples x25.toNat) (Int.toNat (1 : Int))).toNat true)))
 else
 some (.inr x5)
def Ht (r0 : SRelation) : (Int × (List (List Bool))) → St := fun s => [(25, A.val (Af s.1)), (24, A.val (Af ((↑r0.Tuples.length : Int)))), (23, A.val ((slr false 1 (slr false 1 Af)) (r0.Tuples))), (5, A.val ((slr true 1 (slr true 1 V.bool)) s.2))]
def Lv (_r0 : SRelation) : (List (List Bool)) → Tgt
 | s => ((Ex.exit 2), [5], [(5, A.val ((slr true 1 (slr true 1 V.bool)) s))])
theorem U1 {r0 : SRelation} (s : (Int × (List (List Bool)))) (o : (Int × (List (List Bool))) ⊕ (List (List Bool))) (h : Do r0 s = some o) : vc Try.prog L4 (Cu [25, 24, 23, 5] (Ht r0) (Lv r0) o) (Ht r0 s) := by
 obtain ⟨x25, x5⟩ := s
 unfold Do at h
 try dsimp only at h
 conv => whnf
 refine Br.od h (fun p7 h => ?_) (fun p7 h => ?_)
 ·conv => whnf
  refine Len.map ?_
  conv => whnf
  refine Ask.o h fun p8 h => ?_
  conv => whnf
  refine Elem.o (by first | omega | (simp [Ap] at *; omega)) ?_
  conv => whnf
  refine Len.map ?_
  conv => whnf
  refine Ask.o h fun p9 h => ?_
  conv => whnf
  refine Elem.o (by first | omega | (simp [Ap] at *; omega)) ?_
  conv => whnf
  refine Len.map ?_
  conv => whnf
  refine Ask.o h fun p10 h => ?_
  conv => whnf
  refine Cells.one (fun _ => ⟨rfl, rfl⟩) (by first | omega | (simp [Ap] at *; omega)) ?_
  conv => whnf
  refine Len.map ?_
  conv => whnf
  refine Ask.o h fun p11 h => ?_
  conv => whnf
  refine Elem.o (by first | omega | (simp [Ap] at *; omega)) ?_
  conv => whnf
  refine Kid.one (fun _ => ⟨rfl, rfl⟩) (by first | omega | (simp [Ap] at *; omega)) ?_
  conv => whnf
  refine Len.map ?_
  conv => whnf
  refine Ask.o h fun p12 h => ?_
  conv => whnf
  refine Kid.one (fun _ => ⟨rfl, rfl⟩) (by first | omega | (simp [Ap] at *; omega)) ?_
  conv => whnf
  refine SetKids.one (fun _ => ⟨rfl, rfl⟩) (true) (by rfl) (by first | omega | (simp [Ap] at *; omega)) ?_
  conv => whnf
  refine Kid.one (fun _ => ⟨rfl, rfl⟩) (by first | omega | (simp [Ap] at *; omega)) ?_
  conv => whnf
  refine SetKids.one (fun _ => ⟨rfl, rfl⟩) ((nth x5 (nth (nth r0.Tuples x25.toNat) (Int.toNat (0 : Int))).toNat).set (nth (nth r0.Tuples x25.toNat) (Int.toNat (1 : Int))).toNat true) (by rfl) (by first | omega | (simp [Ap] at *; omega)) ?_
  conv => whnf
  refine Ask.o h fun p13 h => ?_
  conv => whnf
  cases h; exact ⟨rfl, rfl⟩
 conv => whnf
 cases h; exact ⟨rfl, rfl⟩
noncomputable def Ew (n0 : Int) (r0 : SRelation) : Option (List (List Bool)) :=
 ask ((0 : Int) ≤ n0 ∧ n0 ≤ (↑LIM : Int)) <|
 (Al (Dp n0 r0) ((0 : Int), List.replicate n0.toNat (Av Bool))).bind fun q6_5 =>
 (Al (Do r0) ((0 : Int), q6_5)).bind fun q14_5 =>
 some q14_5
theorem Y1 {n0 : Int} {r0 : SRelation} {v : (List (List Bool))} (h : Ew n0 r0 = some v) : Ret Try.prog Jq [Af n0, (Ai false) r0] ((slr true 1 (slr true 1 V.bool)) v) := by
 refine A8 Y6 (Nat.le_of_ble_eq_true rfl) ?_
 unfold Ew at h
 conv => whnf
 refine Ask.o h fun p1 h => ?_
 conv => whnf
 refine MkQ.o (slr true 1 V.bool) (Av Bool) rfl ?_
 conv => whnf
 refine Len.mrep ?_
 conv => whnf
 refine LoopQ.o [13, 12, 5, 3, 0] (Hs n0 r0) (Lt n0 r0) h (fun s o h => Ul s o h) (by rfl) (fun _ => rfl) ?_
 rintro q6_5 h
 try dsimp only at h
 conv => whnf
 refine Cells.lit rfl rfl ?_
 conv => whnf
 refine Len.map ?_
 conv => whnf
 refine LoopQ.o [25, 24, 23, 5] (Ht r0) (Lv r0) h (fun s o h => U1 s o h) (by rfl) (fun _ => rfl) ?_
 rintro q14_5 h
 try dsimp only at h
 conv => whnf
 cases h; exact (by rfl)
noncomputable def Fe (c0 : Sl1Cur) : Option (Int × Sl1Cur) :=
 ((if c0.at_ < (↑c0.code.length : Int) then
 ask ((0 : Int) ≤ c0.at_ ∧ c0.at_ < (↑c0.code.length : Int)) <|
 some (IntKind.i64.wrap (nth c0.code c0.at_.toNat))
 else
 some (0 : Int) : Option Int)).bind fun q3_3 =>
 ask (InI (c0.at_ + (1 : Int))) <|
 if c0.at_ + (1 : Int) ≤ (↑c0.code.length : Int) then
 some (q3_3, { code := c0.code, at_ := c0.at_ + (1 : Int), seed := IntKind.u64.wrap (IntKind.u64.wrap (IntKind.u64.wrap (c0.seed * (6364136223846793005 : Int)) + IntKind.u64.wrap q3_3) + (550289 : Int)) })
 else
 some (IntKind.i64.wrap (IntKind.u64.wrap (↑(BitVec.ofInt IntKind.u64.bits ((IntKind.u64.wrap (IntKind.u64.wrap (IntKind.u64.wrap (c0.seed * (6364136223846793005 : Int)) + IntKind.u64.wrap q3_3) + (550289 : Int))).fdiv ((2 : Int) ^ min (Int.toNat (40 : Int)) IntKind.u64.bits)) &&& BitVec.ofInt IntKind.u64.bits (255 : Int)).toNat : Int)), { code := c0.code, at_ := c0.at_ + (1 : Int), seed := IntKind.u64.wrap (IntKind.u64.wrap (IntKind.u64.wrap (c0.seed * (6364136223846793005 : Int)) + IntKind.u64.wrap q3_3) + (550289 : Int)) })
theorem S7 {c0 : Sl1Cur} {v : (Int × Sl1Cur)} (h : Fe c0 = some v) : Qs Try.prog I5 [(rP true (Aj false)) c0] (Af v.1) 0 ((rP true (Aj false)) v.2) := by
 refine Lh Acn (Nat.le_of_ble_eq_true rfl) ?_
 unfold Fe at h
 conv => whnf
 refine CutQ.o (fun t : Int => match t with | s => (Ex.normal, [3, 0, 62], [(3, A.val (Af s)), (0, A.ref 62 []), (62, A.val ((rP true (Aj false)) (c0)))])) h ?_ ?_
 ·intro t h
  conv => whnf
  refine Cells.lit rfl rfl ?_
  conv => whnf
  refine Cells.lit rfl rfl ?_
  conv => whnf
  refine Len.map ?_
  conv => whnf
  refine Br.od h (fun p1 h => ?_) (fun p1 h => ?_)
  ·conv => whnf
   refine Cells.lit rfl rfl ?_
   conv => whnf
   refine Cells.lit rfl rfl ?_
   conv => whnf
   refine Len.map ?_
   conv => whnf
   refine Ask.o h fun p2 h => ?_
   conv => whnf
   refine Elem.o (by first | omega | (simp [Ap] at *; omega)) ?_
   conv => whnf
   cases h; exact ⟨rfl, rfl⟩
  conv => whnf
  cases h; exact ⟨rfl, rfl⟩
 rintro q3_3 h
 try dsimp only at h
 conv => whnf
 refine Cells.lit rfl rfl ?_
 conv => whnf
 refine Ask.o h fun p4 h => ?_
 conv => whnf
 refine SetKids.lit rfl ?_
 conv => whnf
 refine Cells.lit rfl rfl ?_
 conv => whnf
 refine SetKids.lit rfl ?_
 conv => whnf
 refine Cells.lit rfl rfl ?_
 conv => whnf
 refine Cells.lit rfl rfl ?_
 conv => whnf
 refine Len.map ?_
 conv => whnf
 refine Br.od h (fun p5 h => ?_) (fun p5 h => ?_)
 ·conv => whnf
  cases h; exact ⟨(by rfl), (by rfl)⟩
 conv => whnf
 refine Cells.lit rfl rfl ?_
 conv => whnf
 cases h; exact ⟨(by rfl), (by rfl)⟩
noncomputable def Gx (l0 : (List Int)) : Option (List Int) :=
 ask ((Av Int).length + (l0).length ≤ LIM) <|
 some (Av Int ++ l0)
theorem Qn {l0 : (List Int)} {v : (List Int)} (h : Gx l0 = some v) : Ret Try.prog J0 [(slr false 1 Af) l0] ((slr true 1 Af) v) := by
 refine A8 Ane (Nat.le_of_ble_eq_true rfl) ?_
 unfold Gx at h
 conv => whnf
 refine BslQ.o Af (Av Int) (by exact fun _ => ⟨rfl, rfl⟩) (by rfl) ?_
 conv => whnf
 refine AppQ.o (m := 1) Af (by exact fun _ => ⟨rfl, rfl⟩) (Av Int) (l0) (by rfl) (by rfl) h fun h => ?_
 conv => whnf
 cases h; exact (by rfl)
noncomputable def Qf (list0 : (List Int)) : Option (List Int) :=
 ask ((Av Int).length + (list0).length ≤ LIM) <|
 some (Av Int ++ list0)
theorem Aoe {list0 : (List Int)} {v : (List Int)} (h : Qf list0 = some v) : Ret Try.prog Wn [(slr false 1 Af) list0] ((slr true 1 Af) v) := by
 refine A8 An1 (Nat.le_of_ble_eq_true rfl) ?_
 unfold Qf at h
 conv => whnf
 refine BslQ.o Af (Av Int) (by exact fun _ => ⟨rfl, rfl⟩) (by rfl) ?_
 conv => whnf
 refine AppQ.o (m := 1) Af (by exact fun _ => ⟨rfl, rfl⟩) (Av Int) (list0) (by rfl) (by rfl) h fun h => ?_
 conv => whnf
 cases h; exact (by rfl)
noncomputable def Ca (s0 : List Int) (t0 : List Int) : Int → Option (Int ⊕ (Int ⊕ Unit)) := fun x5 =>
 ((if x5 < (↑s0.length : Int) then
 if x5 < (↑t0.length : Int) then
 some (.inl ())
 else
 some (.inr ())
 else
 some (.inr ()) : Option (Unit ⊕ Unit))).bind fun t => match t with
 | (.inl _) => (ask ((0 : Int) ≤ x5 ∧ x5 < (↑s0.length : Int)) <|
 ask ((0 : Int) ≤ x5 ∧ x5 < (↑t0.length : Int)) <|
 if nth s0 x5.toNat ≠ nth t0 x5.toNat then
 ask ((0 : Int) ≤ x5 ∧ x5 < (↑s0.length : Int)) <|
 ask ((0 : Int) ≤ x5 ∧ x5 < (↑t0.length : Int)) <|
 if nth s0 x5.toNat < nth t0 x5.toNat then
 some (.inr (.inl (-1 : Int)))
 else
 some (.inr (.inl (1 : Int)))
 else
 ask (InI (x5 + (1 : Int))) <|
 some (.inl (x5 + (1 : Int))))
 | (.inr _) => (some (.inr (.inr ())))
def Ij (s0 : List Int) (t0 : List Int) : Int → St := fun s => [(5, A.val (Af s)), (0, A.val ((slr false 1 Af) (s0))), (1, A.val ((slr false 1 Af) (t0)))]
def Mt (s0 : List Int) (t0 : List Int) : (Int ⊕ Unit) → Tgt
 | (.inl s) => (Ex.ret, [4], [(4, A.val (Af s))])
 | (.inr _s) => ((Ex.exit 0), [0, 1], [(0, A.val ((slr false 1 Af) (s0))), (1, A.val ((slr false 1 Af) (t0)))])
theorem Ww {s0 : List Int} {t0 : List Int} (x5 : Int) (o : Int ⊕ (Int ⊕ Unit)) (h : Ca s0 t0 x5 = some o) : vc Try.prog Mr (Cu [5, 0, 1] (Ij s0 t0) (Mt s0 t0) o) (Ij s0 t0 x5) := by
 unfold Ca at h
 try dsimp only at h
 conv => whnf
 refine CutQ.o (fun t : (Unit ⊕ Unit) => match t with | (.inl s) => (Ex.normal, [5, 0, 1], [(5, A.val (Af (x5))), (0, A.val ((slr false 1 Af) (s0))), (1, A.val ((slr false 1 Af) (t0)))]) | (.inr s) => ((Ex.exit 0), [0, 1], [(0, A.val ((slr false 1 Af) (s0))), (1, A.val ((slr false 1 Af) (t0)))])) h ?_ ?_
 ·intro t h
  conv => whnf
  refine Len.map ?_
  conv => whnf
  refine Br.od h (fun p1 h => ?_) (fun p1 h => ?_)
  ·conv => whnf
   refine Br.yes ?_
   conv => whnf
   refine Br.yes ?_
   conv => whnf
   refine Len.map ?_
   conv => whnf
   refine Br.yes ?_
   conv => whnf
   refine Br.yes ?_
   conv => whnf
   refine Br.od h (fun p2 h => ?_) (fun p2 h => ?_)
   ·conv => whnf
    cases h; exact ⟨rfl, rfl⟩
   conv => whnf
   cases h; exact ⟨rfl, rfl⟩
  conv => whnf
  refine Br.no ?_
  conv => whnf
  refine Br.no ?_
  conv => whnf
  refine Br.no ?_
  conv => whnf
  refine Br.no ?_
  conv => whnf
  refine Br.no ?_
  conv => whnf
  cases h; exact ⟨rfl, rfl⟩
 rintro (⟨⟩ | ⟨⟩) h
 ·try dsimp only at h
  conv => whnf
  refine Len.map ?_
  conv => whnf
  refine Ask.o h fun p4 h => ?_
  conv => whnf
  refine Elem.o (by first | omega | (simp [Ap] at *; omega)) ?_
  conv => whnf
  refine Len.map ?_
  conv => whnf
  refine Ask.o h fun p5 h => ?_
  conv => whnf
  refine Elem.o (by first | omega | (simp [Ap] at *; omega)) ?_
  conv => whnf
  refine Br.on h (fun p6 h => ?_) (fun p6 h => ?_)
  ·conv => whnf
   refine Len.map ?_
   conv => whnf
   refine Ask.o h fun p7 h => ?_
   conv => whnf
   refine Elem.o (by first | omega | (simp [Ap] at *; omega)) ?_
   conv => whnf
   refine Len.map ?_
   conv => whnf
   refine Ask.o h fun p8 h => ?_
   conv => whnf
   refine Elem.o (by first | omega | (simp [Ap] at *; omega)) ?_
   conv => whnf
   refine Br.od h (fun p9 h => ?_) (fun p9 h => ?_)
   ·conv => whnf
    cases h; exact ⟨rfl, rfl⟩
   conv => whnf
   cases h; exact ⟨rfl, rfl⟩
  conv => whnf
  refine Ask.o h fun p10 h => ?_
  conv => whnf
  cases h; exact ⟨rfl, rfl⟩
 try dsimp only at h
 conv => whnf
 cases h; exact ⟨rfl, rfl⟩
noncomputable def Fk (s0 : (List Int)) (t0 : (List Int)) : Option Int :=
 (Al (Ca s0 t0) (0 : Int)).bind fun t => match t with
 | (.inl q11_4) => (some q11_4)
 | (.inr _) => (if (↑s0.length : Int) < (↑t0.length : Int) then
 some (-1 : Int)
 else
 if (↑s0.length : Int) > (↑t0.length : Int) then
 some (1 : Int)
 else
 some (0 : Int))
theorem Z4 {s0 : (List Int)} {t0 : (List Int)} {v : Int} (h : Fk s0 t0 = some v) : Ret Try.prog Kg [(slr false 1 Af) s0, (slr false 1 Af) t0] (Af v) := by
 refine A8 Z2 (Nat.le_of_ble_eq_true rfl) ?_
 unfold Fk at h
 conv => whnf
 refine LoopQ.o [5, 0, 1] (Ij s0 t0) (Mt s0 t0) h (fun s o h => Ww s o h) (by rfl) (by rintro (_ | _) <;> rfl) ?_
 rintro (q11_4 | ⟨⟩) h
 ·try dsimp only at h
  conv => whnf
  cases h; exact (by rfl)
 try dsimp only at h
 conv => whnf
 refine Len.map ?_
 conv => whnf
 refine Len.map ?_
 conv => whnf
 refine Br.od h (fun p12 h => ?_) (fun p12 h => ?_)
 ·conv => whnf
  cases h; exact (by rfl)
 conv => whnf
 refine Len.map ?_
 conv => whnf
 refine Len.map ?_
 conv => whnf
 refine Br.od h (fun p13 h => ?_) (fun p13 h => ?_)
 ·conv => whnf
  cases h; exact (by rfl)
 conv => whnf
 cases h; exact (by rfl)
noncomputable def Gd (s0 : ByteArray) : (Int × SOp) → Option ((Int × SOp) ⊕ SOp) := fun (x4, x3) =>
 if x4 < (↑s0.size : Int) then
 ask ((0 : Int) ≤ x4 ∧ x4 < (↑s0.size : Int)) <|
 ask ((x3.Table).length + ([IntKind.i64.wrap (IntKind.u8.wrap (Afb s0 x4 - (48 : Int)))]).length ≤ LIM) <|
 ask (InI (x4 + (1 : Int))) <|
 some (.inl (x4 + (1 : Int), { Arity := x3.Arity, Table := x3.Table ++ [IntKind.i64.wrap (IntKind.u8.wrap (Afb s0 x4 - (48 : Int)))] }))
 else
 some (.inr x3)
def Lp (s0 : ByteArray) : (Int × SOp) → St := fun s => [(4, A.val (Af s.1)), (3, A.val ((rP true (A7 true)) s.2)), (2, A.val ((rP true (A7 true)) ({ Arity := (0 : Int), Table := Av Int }))), (0, A.val (V.str (s0)))]
def Rs (_s0 : ByteArray) : SOp → Tgt
 | s => ((Ex.exit 0), [3, 2], [(3, A.val ((rP true (A7 true)) s)), (2, A.val ((rP true (A7 true)) ({ Arity := (0 : Int), Table := Av Int })))])
theorem Aa7 {s0 : ByteArray} (s : (Int × SOp)) (o : (Int × SOp) ⊕ SOp) (h : Gd s0 s = some o) : vc Try.prog Rf (Cu [4, 3, 2, 0] (Lp s0) (Rs s0) o) (Lp s0 s) := by
 obtain ⟨x4, x3⟩ := s
 unfold Gd at h
 try dsimp only at h
 conv => whnf
 refine Br.od h (fun p1 h => ?_) (fun p1 h => ?_)
 ·conv => whnf
  refine Cells.lit rfl rfl ?_
  conv => whnf
  refine Ask.o h fun p2 h => ?_
  conv => whnf
  refine BslQ.o Af ([IntKind.i64.wrap (IntKind.u8.wrap (Afb s0 x4 - (48 : Int)))]) (by exact fun _ => ⟨rfl, rfl⟩) (by rfl) ?_
  conv => whnf
  refine NoOwn.o (fun _ => rfl) ?_
  conv => whnf
  refine Kid.lit rfl rfl ?_
  conv => whnf
  refine Kid.lit rfl rfl ?_
  conv => whnf
  refine SetKids.lit rfl ?_
  conv => whnf
  refine AppQ.o (m := 1) Af (by exact fun _ => ⟨rfl, rfl⟩) (x3.Table) ([IntKind.i64.wrap (IntKind.u8.wrap (Afb s0 x4 - (48 : Int)))]) (by rfl) (by rfl) h fun h => ?_
  conv => whnf
  refine SetKids.lit rfl ?_
  conv => whnf
  refine Ask.o h fun p3 h => ?_
  conv => whnf
  cases h; exact ⟨rfl, rfl⟩
 conv => whnf
 cases h; exact ⟨rfl, rfl⟩
noncomputable def A9 (s0 : ByteArray) : Option SOp :=
 (Al (Gd s0) ((0 : Int), { Arity := (2 : Int), Table := Av Int })).bind fun q4_3 =>
 some q4_3
theorem Bj {s0 : ByteArray} {v : SOp} (h : A9 s0 = some v) : Ret Try.prog Bf [V.str s0] ((A7 true) v) := by
 refine A8 Afv (Nat.le_of_ble_eq_true rfl) ?_
 unfold A9 at h
 conv => whnf
 refine SetKids.lit rfl ?_
 conv => whnf
 refine LoopQ.o [4, 3, 2, 0] (Lp s0) (Rs s0) h (fun s o h => Aa7 s o h) (by rfl) (fun _ => rfl) ?_
 rintro q4_3 h
 try dsimp only at h
 conv => whnf
 refine Cells.lit rfl rfl ?_
 conv => whnf
 refine SetKids.lit rfl ?_
 conv => whnf
 cases h; exact (by rfl)
noncomputable def Gb (n0 : Int) : (Int × SOp) → Option ((Int × SOp) ⊕ SOp) := fun (x4, x3) =>
 ask (InI (n0 * n0)) <|
 ask (InI (n0 * n0 * n0)) <|
 if x4 < n0 * n0 * n0 then
 ask (InI (n0 * n0)) <|
 ask (n0 * n0 ≠ (0 : Int) ∧ InI (x4.tdiv (n0 * n0))) <|
 ask (InI (x4.tdiv (n0 * n0) + n0)) <|
 ask (n0 ≠ (0 : Int) ∧ InI (x4.tdiv n0)) <|
 ask (n0 ≠ (0 : Int)) <|
 ask (InI (x4.tdiv (n0 * n0) + n0 - (x4.tdiv n0).tmod n0)) <|
 ask (n0 ≠ (0 : Int)) <|
 ask (InI (x4.tdiv (n0 * n0) + n0 - (x4.tdiv n0).tmod n0 + x4.tmod n0)) <|
 ask (n0 ≠ (0 : Int)) <|
 ask ((x3.Table).length + ([(x4.tdiv (n0 * n0) + n0 - (x4.tdiv n0).tmod n0 + x4.tmod n0).tmod n0]).length ≤ LIM) <|
 ask (InI (x4 + (1 : Int))) <|
 some (.inl (x4 + (1 : Int), { Arity := x3.Arity, Table := x3.Table ++ [(x4.tdiv (n0 * n0) + n0 - (x4.tdiv n0).tmod n0 + x4.tmod n0).tmod n0] }))
 else
 some (.inr x3)
def Lj (n0 : Int) : (Int × SOp) → St := fun s => [(4, A.val (Af s.1)), (3, A.val ((rP true (A7 true)) s.2)), (2, A.val ((rP true (A7 true)) ({ Arity := (0 : Int), Table := Av Int }))), (0, A.val (Af (n0)))]
def Q6 (_n0 : Int) : SOp → Tgt
 | s => ((Ex.exit 0), [3, 2], [(3, A.val ((rP true (A7 true)) s)), (2, A.val ((rP true (A7 true)) ({ Arity := (0 : Int), Table := Av Int })))])
theorem Aaz {n0 : Int} (s : (Int × SOp)) (o : (Int × SOp) ⊕ SOp) (h : Gb n0 s = some o) : vc Try.prog Rc (Cu [4, 3, 2, 0] (Lj n0) (Q6 n0) o) (Lj n0 s) := by
 obtain ⟨x4, x3⟩ := s
 unfold Gb at h
 try dsimp only at h
 conv => whnf
 refine Ask.o h fun p1 h => ?_
 conv => whnf
 refine Ask.o h fun p2 h => ?_
 conv => whnf
 refine Br.od h (fun p3 h => ?_) (fun p3 h => ?_)
 ·conv => whnf
  refine Cells.lit rfl rfl ?_
  conv => whnf
  refine Ask.o h fun p4 h => ?_
  conv => whnf
  refine Ask.o h fun p5 h => ?_
  conv => whnf
  refine Ask.o h fun p6 h => ?_
  conv => whnf
  refine Ask.o h fun p7 h => ?_
  conv => whnf
  refine Ask.o h fun p8 h => ?_
  conv => whnf
  refine Ask.o h fun p9 h => ?_
  conv => whnf
  refine Ask.o h fun p10 h => ?_
  conv => whnf
  refine Ask.o h fun p11 h => ?_
  conv => whnf
  refine Ask.o h fun p12 h => ?_
  conv => whnf
  refine BslQ.o Af ([(x4.tdiv (n0 * n0) + n0 - (x4.tdiv n0).tmod n0 + x4.tmod n0).tmod n0]) (by exact fun _ => ⟨rfl, rfl⟩) (by rfl) ?_
  conv => whnf
  refine NoOwn.o (fun _ => rfl) ?_
  conv => whnf
  refine Kid.lit rfl rfl ?_
  conv => whnf
  refine Kid.lit rfl rfl ?_
  conv => whnf
  refine SetKids.lit rfl ?_
  conv => whnf
  refine AppQ.o (m := 1) Af (by exact fun _ => ⟨rfl, rfl⟩) (x3.Table) ([(x4.tdiv (n0 * n0) + n0 - (x4.tdiv n0).tmod n0 + x4.tmod n0).tmod n0]) (by rfl) (by rfl) h fun h => ?_
  conv => whnf
  refine SetKids.lit rfl ?_
  conv => whnf
  refine Ask.o h fun p13 h => ?_
  conv => whnf
  cases h; exact ⟨rfl, rfl⟩
 conv => whnf
 cases h; exact ⟨rfl, rfl⟩
noncomputable def Gn (n0 : Int) : Option SOp :=
 (Al (Gb n0) ((0 : Int), { Arity := (3 : Int), Table := Av Int })).bind fun q14_3 =>
 some q14_3
theorem W2 {n0 : Int} {v : SOp} (h : Gn n0 = some v) : Ret Try.prog Lg [Af n0] ((A7 true) v) := by
 refine A8 Af7 (Nat.le_of_ble_eq_true rfl) ?_
 unfold Gn at h
 conv => whnf
 refine SetKids.lit rfl ?_
 conv => whnf
 refine LoopQ.o [4, 3, 2, 0] (Lj n0) (Q6 n0) h (fun s o h => Aaz s o h) (by rfl) (fun _ => rfl) ?_
 rintro q14_3 h
 try dsimp only at h
 conv => whnf
 refine Cells.lit rfl rfl ?_
 conv => whnf
 refine SetKids.lit rfl ?_
 conv => whnf
 cases h; exact (by rfl)
noncomputable def D4 (a0 : SAlgebra) (_op0 : Int) (args0 : List Int) : (Int × Int) → Option ((Int × Int) ⊕ Int) := fun (x8, x7) =>
 if x8 < (↑args0.length : Int) then
 ask (InI (x7 * a0.Size)) <|
 ask ((0 : Int) ≤ x8 ∧ x8 < (↑args0.length : Int)) <|
 ask (InI (x7 * a0.Size + nth args0 x8.toNat)) <|
 ask (InI (x8 + (1 : Int))) <|
 some (.inl (x8 + (1 : Int), x7 * a0.Size + nth args0 x8.toNat))
 else
 some (.inr x7)
def Mz (a0 : SAlgebra) (op0 : Int) (args0 : List Int) : (Int × Int) → St := fun s => [(8, A.val (Af s.1)), (7, A.val (Af s.2)), (3, A.val ((rP true (Ak false)) (a0))), (1, A.val (Af (op0))), (2, A.val ((slr false 1 Af) (args0)))]
def Sj (a0 : SAlgebra) (op0 : Int) (_args0 : List Int) : Int → Tgt
 | s => ((Ex.exit 0), [7, 3, 1], [(7, A.val (Af s)), (3, A.val ((rP true (Ak false)) (a0))), (1, A.val (Af (op0)))])
theorem Ac5 {a0 : SAlgebra} {op0 : Int} {args0 : List Int} (s : (Int × Int)) (o : (Int × Int) ⊕ Int) (h : D4 a0 op0 args0 s = some o) : vc Try.prog Sa (Cu [8, 7, 3, 1, 2] (Mz a0 op0 args0) (Sj a0 op0 args0) o) (Mz a0 op0 args0 s) := by
 obtain ⟨x8, x7⟩ := s
 unfold D4 at h
 try dsimp only at h
 conv => whnf
 refine Len.map ?_
 conv => whnf
 refine Br.od h (fun p1 h => ?_) (fun p1 h => ?_)
 ·conv => whnf
  refine Cells.lit rfl rfl ?_
  conv => whnf
  refine Ask.o h fun p2 h => ?_
  conv => whnf
  refine Len.map ?_
  conv => whnf
  refine Ask.o h fun p3 h => ?_
  conv => whnf
  refine Elem.o (by first | omega | (simp [Ap] at *; omega)) ?_
  conv => whnf
  refine Ask.o h fun p4 h => ?_
  conv => whnf
  refine Ask.o h fun p5 h => ?_
  conv => whnf
  cases h; exact ⟨rfl, rfl⟩
 conv => whnf
 cases h; exact ⟨rfl, rfl⟩
noncomputable def Jc (a0 : SAlgebra) (op0 : Int) (args0 : (List Int)) : Option Int :=
 (Al (D4 a0 op0 args0) ((0 : Int), (0 : Int))).bind fun q6_7 =>
 ask ((0 : Int) ≤ op0 ∧ op0 < (↑a0.Ops.length : Int)) <|
 ask ((0 : Int) ≤ q6_7 ∧ q6_7 < (↑(nth a0.Ops op0.toNat).Table.length : Int)) <|
 some (nth (nth a0.Ops op0.toNat).Table q6_7.toNat)
theorem Agz {a0 : SAlgebra} {op0 : Int} {args0 : (List Int)} {v : Int} (h : Jc a0 op0 args0 = some v) : Ret Try.prog Rb [(Ak false) a0, Af op0, (slr false 1 Af) args0] (Af v) := by
 refine A8 Ahf (Nat.le_of_ble_eq_true rfl) ?_
 unfold Jc at h
 conv => whnf
 refine LoopQ.o [8, 7, 3, 1, 2] (Mz a0 op0 args0) (Sj a0 op0 args0) h (fun s o h => Ac5 s o h) (by rfl) (fun _ => rfl) ?_
 rintro q6_7 h
 try dsimp only at h
 conv => whnf
 refine Cells.lit rfl rfl ?_
 conv => whnf
 refine Len.map ?_
 conv => whnf
 refine Ask.o h fun p7 h => ?_
 conv => whnf
 refine Elem.o (by first | omega | (simp [Ap] at *; omega)) ?_
 conv => whnf
 refine Len.map ?_
 conv => whnf
 refine Ask.o h fun p8 h => ?_
 conv => whnf
 refine Elem.o (by first | omega | (simp [Ap] at *; omega)) ?_
 conv => whnf
 cases h; exact (by rfl)
noncomputable def N4 (a0 : List Int) (b0 : List Int) : Int → Option (Int ⊕ (Bool ⊕ Unit)) := fun x5 =>
 if x5 < (↑a0.length : Int) then
 ask ((0 : Int) ≤ x5 ∧ x5 < (↑a0.length : Int)) <|
 ask ((0 : Int) ≤ x5 ∧ x5 < (↑b0.length : Int)) <|
 if nth a0 x5.toNat ≠ nth b0 x5.toNat then
 ask ((0 : Int) ≤ x5 ∧ x5 < (↑a0.length : Int)) <|
 ask ((0 : Int) ≤ x5 ∧ x5 < (↑b0.length : Int)) <|
 some (.inr (.inl (decide (nth a0 x5.toNat < nth b0 x5.toNat))))
 else
 ask (InI (x5 + (1 : Int))) <|
 some (.inl (x5 + (1 : Int)))
 else
 some (.inr (.inr ()))
def Og (a0 : List Int) (b0 : List Int) : Int → St := fun s => [(5, A.val (Af s)), (0, A.val ((slr false 1 Af) (a0))), (1, A.val ((slr false 1 Af) (b0)))]
def Wb (_a0 : List Int) (_b0 : List Int) : (Bool ⊕ Unit) → Tgt
 | (.inl s) => (Ex.ret, [4], [(4, A.val (V.bool s))])
 | (.inr _s) => ((Ex.exit 0), [], [])
theorem Adw {a0 : List Int} {b0 : List Int} (x5 : Int) (o : Int ⊕ (Bool ⊕ Unit)) (h : N4 a0 b0 x5 = some o) : vc Try.prog U4 (Cu [5, 0, 1] (Og a0 b0) (Wb a0 b0) o) (Og a0 b0 x5) := by
 unfold N4 at h
 try dsimp only at h
 conv => whnf
 refine Len.map ?_
 conv => whnf
 refine Br.od h (fun p1 h => ?_) (fun p1 h => ?_)
 ·conv => whnf
  refine Len.map ?_
  conv => whnf
  refine Ask.o h fun p2 h => ?_
  conv => whnf
  refine Elem.o (by first | omega | (simp [Ap] at *; omega)) ?_
  conv => whnf
  refine Len.map ?_
  conv => whnf
  refine Ask.o h fun p3 h => ?_
  conv => whnf
  refine Elem.o (by first | omega | (simp [Ap] at *; omega)) ?_
  conv => whnf
  refine Br.on h (fun p4 h => ?_) (fun p4 h => ?_)
  ·conv => whnf
   refine Len.map ?_
   conv => whnf
   refine Ask.o h fun p5 h => ?_
   conv => whnf
   refine Elem.o (by first | omega | (simp [Ap] at *; omega)) ?_
   conv => whnf
   refine Len.map ?_
   conv => whnf
   refine Ask.o h fun p6 h => ?_
   conv => whnf
   refine Elem.o (by first | omega | (simp [Ap] at *; omega)) ?_
   conv => whnf
   cases h; exact ⟨rfl, rfl⟩
  conv => whnf
  refine Ask.o h fun p7 h => ?_
  conv => whnf
  cases h; exact ⟨rfl, rfl⟩
 conv => whnf
 cases h; exact ⟨rfl, rfl⟩
noncomputable def Hg (a0 : (List Int)) (b0 : (List Int)) : Option Bool :=
 (Al (N4 a0 b0) (0 : Int)).bind fun t => match t with
 | (.inl q8_4) => (some q8_4)
 | (.inr _) => (some false)
theorem Z8 {a0 : (List Int)} {b0 : (List Int)} {v : Bool} (h : Hg a0 b0 = some v) : Ret Try.prog Ot [(slr false 1 Af) a0, (slr false 1 Af) b0] (V.bool v) := by
 refine A8 Akr (Nat.le_of_ble_eq_true rfl) ?_
 unfold Hg at h
 conv => whnf
 refine LoopQ.o [5, 0, 1] (Og a0 b0) (Wb a0 b0) h (fun s o h => Adw s o h) (by rfl) (by rintro (_ | _) <;> rfl) ?_
 rintro (q8_4 | ⟨⟩) h
 ·try dsimp only at h
  conv => whnf
  cases h; exact (by rfl)
 try dsimp only at h
 conv => whnf
 cases h; exact (by rfl)
end Go.Proofs.Ytcpgnfohmeineaa.Ax
