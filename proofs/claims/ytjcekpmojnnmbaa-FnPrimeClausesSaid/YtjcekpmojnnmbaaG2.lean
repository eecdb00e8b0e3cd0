/-
 What the functions compute, as functions on plain data, and that the program does compute it; written by program.
-/
import Derived.Test.YtjcekpmojnnmbaaCode
namespace Go.Proofs.Ytjcekpmojnnmbaa.Ax
open Go
set_option maxRecDepth 100000
set_option maxHeartbeats 4000000
noncomputable def B5 (p0 : List Int) (x4 : Int) : (Int × SRelation) → Option ((Int × SRelation) ⊕ SRelation) := fun (x5, x3') =>
 if x5 < (↑p0.length : Int) then
 ask ((0 : Int) ≤ x4 ∧ x4 < (↑p0.length : Int)) <|
 ask ((0 : Int) ≤ x5 ∧ x5 < (↑p0.length : Int)) <|
 if nth p0 x4.toNat = nth p0 x5.toNat then
 ask ((x3'.Tuples).length + ([[x4, x5]]).length ≤ LIM) <|
 ask (InI (x5 + (1 : Int))) <|
 some (.inl (x5 + (1 : Int), { Arity := x3'.Arity, Tuples := x3'.Tuples ++ [[x4, x5]] }))
 else
 ask (InI (x5 + (1 : Int))) <|
 some (.inl (x5 + (1 : Int), x3'))
 else
 some (.inr x3')
def Gh (p0 : List Int) (x4 : Int) : (Int × SRelation) → St := fun s => [(5, A.val (Ae s.1)), (4, A.val (Ae (x4))), (3, A.val ((rP true (Aj)) s.2)), (2, A.val ((rP true (Aj)) ({ Arity := (0 : Int), Tuples := Ap (List Int) }))), (0, A.val ((slr false 1 Ae) (p0)))]
def J9 (p0 : List Int) (x4 : Int) : SRelation → Tgt
 | s => ((Ex.exit 2), [4, 3, 2, 0], [(4, A.val (Ae (x4))), (3, A.val ((rP true (Aj)) s)), (2, A.val ((rP true (Aj)) ({ Arity := (0 : Int), Tuples := Ap (List Int) }))), (0, A.val ((slr false 1 Ae) (p0)))])
theorem Ss {p0 : List Int} {x4 : Int} (s : (Int × SRelation)) (o : (Int × SRelation) ⊕ SRelation) (h : B5 p0 x4 s = some o) : vc Try.prog J4 (C6 [5, 4, 3, 2, 0] (Gh p0 x4) (J9 p0 x4) o) (Gh p0 x4 s) := by
 obtain ⟨x5, x3'⟩ := s
 unfold B5 at h
 try dsimp only at h
 refine Len.map <| Br.od h (fun p2 h => ?_) (fun p2 h => ?_)
 ·refine Len.map <| Ask.o h fun p3 h => Elem.o (by first | omega | (simp [A4] at * <;> omega)) <| Len.map <| Ask.o h fun p4 h => Elem.o (by first | omega | (simp [A4] at * <;> omega)) <| Br.oe h (fun p5 h => ?_) (fun p5 h => ?_)
  ·refine Cells.lit rfl rfl <| BslQ.o Ae ([x4, x5]) (by exact fun _ => ⟨rfl, rfl⟩) (by first | rfl | (simp only [Aa, V.fz, fzL, V.up, upL, Ab, Ac, Ad, slr, List.cons_append, List.nil_append]; done) | simp [Aa, V.fz, fzL, V.up, upL, Ab, Ac, Ad, slr]) <| FrzQ.d (V.sl false (1 : Nat) (List.map Ae [x4, x5])) (by first | (simp only [As, Ac]; done) | (simp [As, V.fz, Ab, Ac, slr]; done) | (simp [As, V.fz, fzL, Ab, slr]; done)) <| BslQ.o (slr false 1 Ae) ([[x4, x5]]) (by exact fun _ => ⟨rfl, rfl⟩) (by first | rfl | (simp only [Aa, V.fz, fzL, V.up, upL, Ab, Ac, Ad, slr, List.cons_append, List.nil_append]; done) | simp [Aa, V.fz, fzL, V.up, upL, Ab, Ac, Ad, slr]) <| NoOwn.o (fun _ => rfl) <| Kid.lit rfl rfl <| Kid.lit rfl rfl <| SetKids.lit rfl <| AppQ.o (m := 1) (slr false 1 Ae) (by exact fun _ => ⟨rfl, rfl⟩) (x3'.Tuples) ([[x4, x5]]) (by rfl) (by rfl) h fun h => SetKids.lit rfl <| Ask.o h fun p6 h => ?_
   cases h; exact ⟨rfl, rfl⟩
  refine Ask.o h fun p7 h => ?_
  cases h; exact ⟨rfl, rfl⟩
 cases h; exact ⟨rfl, rfl⟩
noncomputable def B4 (p0 : List Int) : (Int × SRelation) → Option ((Int × SRelation) ⊕ SRelation) := fun (x4, x3) =>
 if x4 < (↑p0.length : Int) then
 (Al (B5 p0 x4) ((0 : Int), x3)).bind fun q8_3 =>
 ask (InI (x4 + (1 : Int))) <|
 some (.inl (x4 + (1 : Int), q8_3))
 else
 some (.inr x3)
def Gn (p0 : List Int) : (Int × SRelation) → St := fun s => [(4, A.val (Ae s.1)), (3, A.val ((rP true (Aj)) s.2)), (2, A.val ((rP true (Aj)) ({ Arity := (0 : Int), Tuples := Ap (List Int) }))), (0, A.val ((slr false 1 Ae) (p0)))]
def Ki (_p0 : List Int) : SRelation → Tgt
 | s => ((Ex.exit 0), [3, 2], [(3, A.val ((rP true (Aj)) s)), (2, A.val ((rP true (Aj)) ({ Arity := (0 : Int), Tuples := Ap (List Int) })))])
theorem Su {p0 : List Int} (s : (Int × SRelation)) (o : (Int × SRelation) ⊕ SRelation) (h : B4 p0 s = some o) : vc Try.prog Kb (C6 [4, 3, 2, 0] (Gn p0) (Ki p0) o) (Gn p0 s) := by
 obtain ⟨x4, x3⟩ := s
 unfold B4 at h
 try dsimp only at h
 refine Len.map <| Br.od h (fun p1 h => ?_) (fun p1 h => ?_)
 ·refine LoopQ.o [5, 4, 3, 2, 0] (Gh p0 x4) (J9 p0 x4) h (fun s o h => Ss s o h) (by rfl) (fun _ => rfl) ?_
  rintro q8_3 h
  try dsimp only at h
  refine Ask.o h fun p9 h => ?_
  cases h; exact ⟨rfl, rfl⟩
 cases h; exact ⟨rfl, rfl⟩
noncomputable def Da (p0 : (List Int)) : Option SRelation :=
 (Al (B4 p0) ((0 : Int), { Arity := (2 : Int), Tuples := Ap (List Int) })).bind fun q10_3 =>
 some q10_3
theorem W9 {p0 : (List Int)} {v : SRelation} (h : Da p0 = some v) : Ret Try.prog H7 [(slr false 1 Ae) p0] ((Aj) v) := by
 refine A7 W8 (Nat.le_of_ble_eq_true rfl) ?_
 unfold Da at h
 refine BslQ.o (slr true 1 Ae) (Ap (List Int)) (by exact fun _ => ⟨rfl, rfl⟩) (by first | rfl | (simp only [Aa, V.fz, fzL, V.up, upL, Ab, Ac, Ad, slr, List.cons_append, List.nil_append]; done) | simp [Aa, V.fz, fzL, V.up, upL, Ab, Ac, Ad, slr]) <| SetKids.lit rfl <| LoopQ.o [4, 3, 2, 0] (Gn p0) (Ki p0) h (fun s o h => Su s o h) (by rfl) (fun _ => rfl) ?_
 rintro q10_3 h
 try dsimp only at h
 refine Cells.lit rfl rfl <| SetKids.lit rfl ?_
 cases h; exact (by rfl)
noncomputable def Co (vars0 : Int) (value0 : Int) : (Int × (List Int)) → Option ((Int × (List Int)) ⊕ (List Int)) := fun (x6, x5) =>
 if x6 < vars0 then
 ask ((x5).length + ([value0]).length ≤ LIM) <|
 ask (InI (x6 + (1 : Int))) <|
 some (.inl (x6 + (1 : Int), x5 ++ [value0]))
 else
 some (.inr x5)
def Ic (vars0 : Int) (value0 : Int) : (Int × (List Int)) → St := fun s => [(6, A.val (Ae s.1)), (5, A.val ((slr true 1 Ae) s.2)), (0, A.val (Ae (vars0))), (1, A.val (Ae (value0)))]
def Mr (_vars0 : Int) (_value0 : Int) : (List Int) → Tgt
 | s => ((Ex.exit 0), [5], [(5, A.val ((slr true 1 Ae) s))])
theorem Wu {vars0 : Int} {value0 : Int} (s : (Int × (List Int))) (o : (Int × (List Int)) ⊕ (List Int)) (h : Co vars0 value0 s = some o) : vc Try.prog Mn (C6 [6, 5, 0, 1] (Ic vars0 value0) (Mr vars0 value0) o) (Ic vars0 value0 s) := by
 obtain ⟨x6, x5⟩ := s
 unfold Co at h
 try dsimp only at h
 refine Br.od h (fun p1 h => ?_) (fun p1 h => ?_)
 ·refine BslQ.o Ae [value0] (by exact fun _ => ⟨rfl, rfl⟩) (by first | rfl | (simp only [Aa, V.fz, fzL, V.up, upL, Ab, Ac, Ad, slr, List.cons_append, List.nil_append]; done) | simp [Aa, V.fz, fzL, V.up, upL, Ab, Ac, Ad, slr]) <| NoOwn.o (fun _ => rfl) <| AppQ.o (m := 1) Ae (by exact fun _ => ⟨rfl, rfl⟩) (x5) ([value0]) (by rfl) (by rfl) h fun h => Ask.o h fun p2 h => ?_
  cases h; exact ⟨rfl, rfl⟩
 cases h; exact ⟨rfl, rfl⟩
noncomputable def Fo (vars0 : Int) (value0 : Int) : Option (List Int) :=
 (Al (Co vars0 value0) ((0 : Int), Ap Int)).bind fun q3_5 =>
 some q3_5
theorem Aag {vars0 : Int} {value0 : Int} {v : (List Int)} (h : Fo vars0 value0 = some v) : Ret Try.prog Ko [Ae vars0, Ae value0] ((slr true 1 Ae) v) := by
 refine A7 Aan (Nat.le_of_ble_eq_true rfl) ?_
 unfold Fo at h
 refine BslQ.o Ae (Ap Int) (by exact fun _ => ⟨rfl, rfl⟩) (by first | rfl | (simp only [Aa, V.fz, fzL, V.up, upL, Ab, Ac, Ad, slr, List.cons_append, List.nil_append]; done) | simp [Aa, V.fz, fzL, V.up, upL, Ab, Ac, Ad, slr]) <| LoopQ.o [6, 5, 0, 1] (Ic vars0 value0) (Mr vars0 value0) h (fun s o h => Wu s o h) (by rfl) (fun _ => rfl) ?_
 rintro q3_5 h
 try dsimp only at h
 cases h; exact (by rfl)
noncomputable def Ke : Option (List SOp) :=
 some ([{ Arity := (2 : Int), Table := [(0 : Int), (0 : Int), (0 : Int), (1 : Int)] }, { Arity := (2 : Int), Table := [(0 : Int), (1 : Int), (1 : Int), (1 : Int)] }, { Arity := (3 : Int), Table := [(0 : Int), (1 : Int), (1 : Int), (0 : Int), (1 : Int), (0 : Int), (0 : Int), (1 : Int)] }, { Arity := (3 : Int), Table := [(0 : Int), (0 : Int), (0 : Int), (1 : Int), (0 : Int), (1 : Int), (1 : Int), (1 : Int)] }])
theorem Ak9 {v : (List SOp)} (h : Ke = some v) : Ret Try.prog S6 [] ((slr true 2 (Ho true)) v) := by
 refine A7 Akf (Nat.le_of_ble_eq_true rfl) ?_
 unfold Ke at h
 refine BslQ.o Ae ([(0 : Int), (0 : Int), (0 : Int), (1 : Int)]) (by exact fun _ => ⟨rfl, rfl⟩) (by first | rfl | (simp only [Aa, V.fz, fzL, V.up, upL, Ab, Ac, Ad, slr, List.cons_append, List.nil_append]; done) | simp [Aa, V.fz, fzL, V.up, upL, Ab, Ac, Ad, slr]) <| BslQ.o Ae ([(0 : Int), (1 : Int), (1 : Int), (1 : Int)]) (by exact fun _ => ⟨rfl, rfl⟩) (by first | rfl | (simp only [Aa, V.fz, fzL, V.up, upL, Ab, Ac, Ad, slr, List.cons_append, List.nil_append]; done) | simp [Aa, V.fz, fzL, V.up, upL, Ab, Ac, Ad, slr]) <| BslQ.o Ae ([(0 : Int), (1 : Int), (1 : Int), (0 : Int), (1 : Int), (0 : Int), (0 : Int), (1 : Int)]) (by exact fun _ => ⟨rfl, rfl⟩) (by first | rfl | (simp only [Aa, V.fz, fzL, V.up, upL, Ab, Ac, Ad, slr, List.cons_append, List.nil_append]; done) | simp [Aa, V.fz, fzL, V.up, upL, Ab, Ac, Ad, slr]) <| BslQ.o Ae ([(0 : Int), (0 : Int), (0 : Int), (1 : Int), (0 : Int), (1 : Int), (1 : Int), (1 : Int)]) (by exact fun _ => ⟨rfl, rfl⟩) (by first | rfl | (simp only [Aa, V.fz, fzL, V.up, upL, Ab, Ac, Ad, slr, List.cons_append, List.nil_append]; done) | simp [Aa, V.fz, fzL, V.up, upL, Ab, Ac, Ad, slr]) <| BslQ.o (Ho true) ([{ Arity := (2 : Int), Table := [(0 : Int), (0 : Int), (0 : Int), (1 : Int)] }, { Arity := (2 : Int), Table := [(0 : Int), (1 : Int), (1 : Int), (1 : Int)] }, { Arity := (3 : Int), Table := [(0 : Int), (1 : Int), (1 : Int), (0 : Int), (1 : Int), (0 : Int), (0 : Int), (1 : Int)] }, { Arity := (3 : Int), Table := [(0 : Int), (0 : Int), (0 : Int), (1 : Int), (0 : Int), (1 : Int), (1 : Int), (1 : Int)] }]) (by exact fun _ => ⟨rfl, rfl⟩) (by first | rfl | (simp only [Aa, V.fz, fzL, V.up, upL, Ab, Ac, Ad, slr, List.cons_append, List.nil_append]; done) | simp [Aa, V.fz, fzL, V.up, upL, Ab, Ac, Ad, slr]) ?_
 cases h; exact (by rfl)
noncomputable def Eo (c0 : Sl1Cur) : Option (Int × Sl1Cur) :=
 ((if c0.at_ < (↑c0.code.length : Int) then
 ask ((0 : Int) ≤ c0.at_ ∧ c0.at_ < (↑c0.code.length : Int)) <|
 some (IntKind.i64.wrap (nth c0.code c0.at_.toNat))
 else
 some (0 : Int) : Option Int)).bind fun q3_3 =>
 ask (InI (c0.at_ + (1 : Int))) <|
 if c0.at_ + (1 : Int) ≤ (↑c0.code.length : Int) then
 some (q3_3, { code := c0.code, at_ := c0.at_ + (1 : Int), seed := IntKind.u64.wrap (IntKind.u64.wrap (IntKind.u64.wrap (c0.seed * (6364136223846793005 : Int)) + IntKind.u64.wrap q3_3) + (550289 : Int)) })
 else
 some (IntKind.i64.wrap (IntKind.u64.wrap (↑(BitVec.ofInt IntKind.u64.bits ((IntKind.u64.wrap (IntKind.u64.wrap (IntKind.u64.wrap (c0.seed * (6364136223846793005 : Int)) + IntKind.u64.wrap q3_3) + (550289 : Int))).fdiv ((2 : Int) ^ min (Int.toNat (40 : Int)) IntKind.u64.bits)) &&& BitVec.ofInt IntKind.u64.bits (255 : Int)).toNat : Int)), { code := c0.code, at_ := c0.at_ + (1 : Int), seed := IntKind.u64.wrap (IntKind.u64.wrap (IntKind.u64.wrap (c0.seed * (6364136223846793005 : Int)) + IntKind.u64.wrap q3_3) + (550289 : Int)) })
theorem Sm {c0 : Sl1Cur} {v : (Int × Sl1Cur)} (h : Eo c0 = some v) : Sr Try.prog Ig [(rP true (Am false)) c0] (Ae v.1) 0 ((rP true (Am false)) v.2) := by
 refine Yv Ach (Nat.le_of_ble_eq_true rfl) ?_
 unfold Eo at h
 refine CutQ.o (fun t : Int => match t with | s => (Ex.normal, [3, 0, 62], [(3, A.val (Ae s)), (0, A.ref 62 []), (62, A.val ((rP true (Am false)) (c0)))])) h ?_ ?_
 ·intro t h
  refine Cells.lit rfl rfl <| Cells.lit rfl rfl <| Len.map <| Br.od h (fun p1 h => ?_) (fun p1 h => ?_)
  ·refine Cells.lit rfl rfl <| Cells.lit rfl rfl <| Len.map <| Ask.o h fun p2 h => Elem.o (by first | omega | (simp [A4] at * <;> omega)) ?_
   cases h; exact ⟨rfl, rfl⟩
  cases h; exact ⟨rfl, rfl⟩
 rintro q3_3 h
 try dsimp only at h
 refine Cells.lit rfl rfl <| Ask.o h fun p4 h => SetKids.lit rfl <| Cells.lit rfl rfl <| SetKids.lit rfl <| Cells.lit rfl rfl <| Cells.lit rfl rfl <| Len.map <| Br.od h (fun p5 h => ?_) (fun p5 h => ?_)
 ·cases h; exact ⟨(by rfl), (by rfl)⟩
 refine Cells.lit rfl rfl ?_
 cases h; exact ⟨(by rfl), (by rfl)⟩
noncomputable def Ee (list0 : List Int) (n0 : Int) : Int → Option (Int ⊕ (Unit ⊕ Unit)) := fun x9 =>
 if x9 < (↑list0.length : Int) then
 ask ((0 : Int) ≤ x9 ∧ x9 < (↑list0.length : Int)) <|
 if nth list0 x9.toNat < (0 : Int) then
 some (.inr (.inl ()))
 else
 if nth list0 x9.toNat ≥ n0 then
 some (.inr (.inl ()))
 else
 ask (InI (x9 + (1 : Int))) <|
 some (.inl (x9 + (1 : Int)))
 else
 some (.inr (.inr ()))
def M0 (list0 : List Int) (n0 : Int) : Int → St := fun s => [(9, A.val (Ae s)), (8, A.val (Ae ((↑list0.length : Int)))), (7, A.val ((slr false 1 Ae) (list0))), (1, A.val (Ae (n0)))]
def T5 (_list0 : List Int) (_n0 : Int) : (Unit ⊕ Unit) → Tgt
 | (.inl _s) => (Ex.ret, [4], [(4, A.val (V.bool (false)))])
 | (.inr _s) => ((Ex.exit 0), [], [])
theorem Ael {list0 : List Int} {n0 : Int} (x9 : Int) (o : Int ⊕ (Unit ⊕ Unit)) (h : Ee list0 n0 x9 = some o) : vc Try.prog T0 (C6 [9, 8, 7, 1] (M0 list0 n0) (T5 list0 n0) o) (M0 list0 n0 x9) := by
 unfold Ee at h
 try dsimp only at h
 refine Br.od h (fun p1 h => ?_) (fun p1 h => ?_)
 ·refine Len.map <| Ask.o h fun p2 h => Elem.o (by first | omega | (simp [A4] at * <;> omega)) <| Br.od h (fun p3 h => ?_) (fun p3 h => ?_)
  ·refine Br.yes <| Br.yes <| Br.yes <| Br.yes ?_
   cases h; exact ⟨rfl, rfl⟩
  refine Br.no <| Br.no <| Br.no <| Br.od h (fun p4 h => ?_) (fun p4 h => ?_)
  ·cases h; exact ⟨rfl, rfl⟩
  refine Ask.o h fun p5 h => ?_
  cases h; exact ⟨rfl, rfl⟩
 cases h; exact ⟨rfl, rfl⟩
noncomputable def Hw (list0 : (List Int)) (n0 : Int) : Option Bool :=
 (Al (Ee list0 n0) (0 : Int)).bind fun t => match t with
 | (.inl _) => (some false)
 | (.inr _) => (some true)
theorem Zo {list0 : (List Int)} {n0 : Int} {v : Bool} (h : Hw list0 n0 = some v) : Ret Try.prog Nt [(slr false 1 Ae) list0, Ae n0] (V.bool v) := by
 refine A7 Akx (Nat.le_of_ble_eq_true rfl) ?_
 unfold Hw at h
 refine Len.map <| LoopQ.o [9, 8, 7, 1] (M0 list0 n0) (T5 list0 n0) h (fun s o h => Ael s o h) (by rfl) (by rintro (_ | _) <;> rfl) ?_
 rintro (⟨⟩ | ⟨⟩) h
 ·try dsimp only at h
  cases h; exact (by rfl)
 try dsimp only at h
 cases h; exact (by rfl)
noncomputable def Ca (s0 : List Int) (t0 : List Int) : Int → Option (Int ⊕ (Int ⊕ Unit)) := fun x5 =>
 ((if x5 < (↑s0.length : Int) then
 if x5 < (↑t0.length : Int) then
 some (.inl ())
 else
 some (.inr ())
 else
 some (.inr ()) : Option (Unit ⊕ Unit))).bind fun t => match t with
 | (.inl _) => (ask ((0 : Int) ≤ x5 ∧ x5 < (↑s0.length : Int)) <|
 ask ((0 : Int) ≤ x5 ∧ x5 < (↑t0.length : Int)) <|
 if nth s0 x5.toNat ≠ nth t0 x5.toNat then
 ask ((0 : Int) ≤ x5 ∧ x5 < (↑s0.length : Int)) <|
 ask ((0 : Int) ≤ x5 ∧ x5 < (↑t0.length : Int)) <|
 if nth s0 x5.toNat < nth t0 x5.toNat then
 some (.inr (.inl (-1 : Int)))
 else
 some (.inr (.inl (1 : Int)))
 else
 ask (InI (x5 + (1 : Int))) <|
 some (.inl (x5 + (1 : Int))))
 | (.inr _) => (some (.inr (.inr ())))
def Hm (s0 : List Int) (t0 : List Int) : Int → St := fun s => [(5, A.val (Ae s)), (0, A.val ((slr false 1 Ae) (s0))), (1, A.val ((slr false 1 Ae) (t0)))]
def L3 (s0 : List Int) (t0 : List Int) : (Int ⊕ Unit) → Tgt
 | (.inl s) => (Ex.ret, [4], [(4, A.val (Ae s))])
 | (.inr _s) => ((Ex.exit 0), [0, 1], [(0, A.val ((slr false 1 Ae) (s0))), (1, A.val ((slr false 1 Ae) (t0)))])
theorem Vk {s0 : List Int} {t0 : List Int} (x5 : Int) (o : Int ⊕ (Int ⊕ Unit)) (h : Ca s0 t0 x5 = some o) : vc Try.prog Mb (C6 [5, 0, 1] (Hm s0 t0) (L3 s0 t0) o) (Hm s0 t0 x5) := by
 unfold Ca at h
 try dsimp only at h
 refine CutQ.o (fun t : (Unit ⊕ Unit) => match t with | (.inl s) => (Ex.normal, [5, 0, 1], [(5, A.val (Ae (x5))), (0, A.val ((slr false 1 Ae) (s0))), (1, A.val ((slr false 1 Ae) (t0)))]) | (.inr s) => ((Ex.exit 0), [0, 1], [(0, A.val ((slr false 1 Ae) (s0))), (1, A.val ((slr false 1 Ae) (t0)))])) h ?_ ?_
 ·intro t h
  refine Len.map <| Br.od h (fun p1 h => ?_) (fun p1 h => ?_)
  ·refine Br.yes <| Br.yes <| Len.map <| Br.yes <| Br.yes <| Br.od h (fun p2 h => ?_) (fun p2 h => ?_)
   ·cases h; exact ⟨rfl, rfl⟩
   cases h; exact ⟨rfl, rfl⟩
  refine Br.no <| Br.no <| Br.no <| Br.no <| Br.no ?_
  cases h; exact ⟨rfl, rfl⟩
 rintro (⟨⟩ | ⟨⟩) h
 ·try dsimp only at h
  refine Len.map <| Ask.o h fun p4 h => Elem.o (by first | omega | (simp [A4] at * <;> omega)) <| Len.map <| Ask.o h fun p5 h => Elem.o (by first | omega | (simp [A4] at * <;> omega)) <| Br.on h (fun p6 h => ?_) (fun p6 h => ?_)
  ·refine Len.map <| Ask.o h fun p7 h => Elem.o (by first | omega | (simp [A4] at * <;> omega)) <| Len.map <| Ask.o h fun p8 h => Elem.o (by first | omega | (simp [A4] at * <;> omega)) <| Br.od h (fun p9 h => ?_) (fun p9 h => ?_)
   ·cases h; exact ⟨rfl, rfl⟩
   cases h; exact ⟨rfl, rfl⟩
  refine Ask.o h fun p10 h => ?_
  cases h; exact ⟨rfl, rfl⟩
 try dsimp only at h
 cases h; exact ⟨rfl, rfl⟩
noncomputable def Dx (s0 : (List Int)) (t0 : (List Int)) : Option Int :=
 (Al (Ca s0 t0) (0 : Int)).bind fun t => match t with
 | (.inl q11_4) => (some q11_4)
 | (.inr _) => (if (↑s0.length : Int) < (↑t0.length : Int) then
 some (-1 : Int)
 else
 if (↑s0.length : Int) > (↑t0.length : Int) then
 some (1 : Int)
 else
 some (0 : Int))
theorem Pt {s0 : (List Int)} {t0 : (List Int)} {v : Int} (h : Dx s0 t0 = some v) : Ret Try.prog Gy [(slr false 1 Ae) s0, (slr false 1 Ae) t0] (Ae v) := by
 refine A7 Yz (Nat.le_of_ble_eq_true rfl) ?_
 unfold Dx at h
 refine LoopQ.o [5, 0, 1] (Hm s0 t0) (L3 s0 t0) h (fun s o h => Vk s o h) (by rfl) (by rintro (_ | _) <;> rfl) ?_
 rintro (q11_4 | ⟨⟩) h
 ·try dsimp only at h
  cases h; exact (by rfl)
 try dsimp only at h
 refine Len.map <| Len.map <| Br.od h (fun p12 h => ?_) (fun p12 h => ?_)
 ·cases h; exact (by rfl)
 refine Len.map <| Len.map <| Br.od h (fun p13 h => ?_) (fun p13 h => ?_)
 ·cases h; exact (by rfl)
 cases h; exact (by rfl)
noncomputable def Eb (a0 : List Int) (b0 : List Int) : Int → Option (Int ⊕ (Bool ⊕ Unit)) := fun x5 =>
 if x5 < (↑a0.length : Int) then
 ask ((0 : Int) ≤ x5 ∧ x5 < (↑a0.length : Int)) <|
 ask ((0 : Int) ≤ x5 ∧ x5 < (↑b0.length : Int)) <|
 if nth a0 x5.toNat ≠ nth b0 x5.toNat then
 ask ((0 : Int) ≤ x5 ∧ x5 < (↑a0.length : Int)) <|
 ask ((0 : Int) ≤ x5 ∧ x5 < (↑b0.length : Int)) <|
 some (.inr (.inl (decide (nth a0 x5.toNat < nth b0 x5.toNat))))
 else
 ask (InI (x5 + (1 : Int))) <|
 some (.inl (x5 + (1 : Int)))
 else
 some (.inr (.inr ()))
def M6 (a0 : List Int) (b0 : List Int) : Int → St := fun s => [(5, A.val (Ae s)), (0, A.val ((slr false 1 Ae) (a0))), (1, A.val ((slr false 1 Ae) (b0)))]
def U3 (_a0 : List Int) (_b0 : List Int) : (Bool ⊕ Unit) → Tgt
 | (.inl s) => (Ex.ret, [4], [(4, A.val (V.bool s))])
 | (.inr _s) => ((Ex.exit 0), [], [])
theorem Ad1 {a0 : List Int} {b0 : List Int} (x5 : Int) (o : Int ⊕ (Bool ⊕ Unit)) (h : Eb a0 b0 x5 = some o) : vc Try.prog U1 (C6 [5, 0, 1] (M6 a0 b0) (U3 a0 b0) o) (M6 a0 b0 x5) := by
 unfold Eb at h
 try dsimp only at h
 refine Len.map <| Br.od h (fun p1 h => ?_) (fun p1 h => ?_)
 ·refine Len.map <| Ask.o h fun p2 h => Elem.o (by first | omega | (simp [A4] at * <;> omega)) <| Len.map <| Ask.o h fun p3 h => Elem.o (by first | omega | (simp [A4] at * <;> omega)) <| Br.on h (fun p4 h => ?_) (fun p4 h => ?_)
  ·refine Len.map <| Ask.o h fun p5 h => Elem.o (by first | omega | (simp [A4] at * <;> omega)) <| Len.map <| Ask.o h fun p6 h => Elem.o (by first | omega | (simp [A4] at * <;> omega)) ?_
   cases h; exact ⟨rfl, rfl⟩
  refine Ask.o h fun p7 h => ?_
  cases h; exact ⟨rfl, rfl⟩
 cases h; exact ⟨rfl, rfl⟩
noncomputable def Gi (a0 : (List Int)) (b0 : (List Int)) : Option Bool :=
 (Al (Eb a0 b0) (0 : Int)).bind fun t => match t with
 | (.inl q8_4) => (some q8_4)
 | (.inr _) => (some false)
theorem Ti {a0 : (List Int)} {b0 : (List Int)} {v : Bool} (h : Gi a0 b0 = some v) : Ret Try.prog J5 [(slr false 1 Ae) a0, (slr false 1 Ae) b0] (V.bool v) := by
 refine A7 Aj8 (Nat.le_of_ble_eq_true rfl) ?_
 unfold Gi at h
 refine LoopQ.o [5, 0, 1] (M6 a0 b0) (U3 a0 b0) h (fun s o h => Ad1 s o h) (by rfl) (by rintro (_ | _) <;> rfl) ?_
 rintro (q8_4 | ⟨⟩) h
 ·try dsimp only at h
  cases h; exact (by rfl)
 try dsimp only at h
 cases h; exact (by rfl)
noncomputable def Gq (n0 : Int) : Option Bool :=
 if n0 ≥ (1 : Int) then
 some (decide (n0 ≤ (8 : Int)))
 else
 some false
theorem Z1 {n0 : Int} {v : Bool} (h : Gq n0 = some v) : Ret Try.prog Nx [Ae n0] (V.bool v) := by
 refine A7 Alk (Nat.le_of_ble_eq_true rfl) ?_
 unfold Gq at h
 refine Br.od h (fun p1 h => ?_) (fun p1 h => ?_)
 ·refine Br.yes <| Br.yes ?_
  cases h; exact (by rfl)
 refine Br.no <| Br.no ?_
 cases h; exact (by rfl)
noncomputable def Cf (n0 : Int) : (Int × Int) → Option ((Int × Int) ⊕ Int) := fun (x5, x1) =>
 if x1 > (0 : Int) then
 ask (InI (x5 * n0)) <|
 ask (InI (x1 - (1 : Int))) <|
 some (.inl (x5 * n0, x1 - (1 : Int)))
 else
 some (.inr x5)
def Pm (n0 : Int) : (Int × Int) → St := fun s => [(5, A.val (Ae s.1)), (0, A.val (Ae (n0))), (1, A.val (Ae s.2))]
def Wb (_n0 : Int) : Int → Tgt
 | s => ((Ex.exit 0), [5], [(5, A.val (Ae s))])
theorem Ago {n0 : Int} (s : (Int × Int)) (o : (Int × Int) ⊕ Int) (h : Cf n0 s = some o) : vc Try.prog Wh (C6 [5, 0, 1] (Pm n0) (Wb n0) o) (Pm n0 s) := by
 obtain ⟨x5, x1⟩ := s
 unfold Cf at h
 try dsimp only at h
 refine Br.od h (fun p1 h => ?_) (fun p1 h => ?_)
 ·refine Ask.o h fun p2 h => Ask.o h fun p3 h => ?_
  cases h; exact ⟨rfl, rfl⟩
 cases h; exact ⟨rfl, rfl⟩
noncomputable def Dh (n0 : Int) (k0 : Int) : Option Int :=
 (Al (Cf n0) ((1 : Int), k0)).bind fun q4_5 =>
 some q4_5
theorem Lc {n0 : Int} {k0 : Int} {v : Int} (h : Dh n0 k0 = some v) : Ret Try.prog Hn [Ae n0, Ae k0] (Ae v) := by
 refine A7 Aol (Nat.le_of_ble_eq_true rfl) ?_
 unfold Dh at h
 refine LoopQ.o [5, 0, 1] (Pm n0) (Wb n0) h (fun s o h => Ago s o h) (by rfl) (fun _ => rfl) ?_
 rintro q4_5 h
 try dsimp only at h
 cases h; exact (by rfl)
noncomputable def M3 (n0 : Int) : (Int × (List Int) × Int) → Option ((Int × (List Int) × Int) ⊕ (List Int)) := fun (x8, x7, x0) =>
 if x8 ≥ (0 : Int) then
 ask (n0 ≠ (0 : Int)) <|
 ask ((0 : Int) ≤ x8 ∧ x8 < (↑x7.length : Int)) <|
 ask (n0 ≠ (0 : Int) ∧ InI (x0.tdiv n0)) <|
 ask (InI (x8 - (1 : Int))) <|
 some (.inl (x8 - (1 : Int), x7.set x8.toNat (x0.tmod n0), x0.tdiv n0))
 else
 some (.inr x7)
def Ni (n0 : Int) : (Int × (List Int) × Int) → St := fun s => [(8, A.val (Ae s.1)), (7, A.val ((slr true 1 Ae) s.2.1)), (0, A.val (Ae s.2.2)), (2, A.val (Ae (n0)))]
def U4 (_n0 : Int) : (List Int) → Tgt
 | s => ((Ex.exit 0), [7], [(7, A.val ((slr true 1 Ae) s))])
theorem Aeh {n0 : Int} (s : (Int × (List Int) × Int)) (o : (Int × (List Int) × Int) ⊕ (List Int)) (h : M3 n0 s = some o) : vc Try.prog Uz (C6 [8, 7, 0, 2] (Ni n0) (U4 n0) o) (Ni n0 s) := by
 obtain ⟨x8, x7, x0⟩ := s
 unfold M3 at h
 try dsimp only at h
 refine Br.od h (fun p3 h => ?_) (fun p3 h => ?_)
 ·refine Ask.o h fun p4 h => Len.map <| Ask.o h fun p5 h => SetKids.one (fun _ => ⟨rfl, rfl⟩) (x0.tmod n0) (by rfl) (by first | omega | (simp [A4] at * <;> omega)) <| Ask.o h fun p6 h => Ask.o h fun p7 h => ?_
  cases h; exact ⟨rfl, rfl⟩
 cases h; exact ⟨rfl, rfl⟩
noncomputable def Hz (i0 : Int) (k0 : Int) (n0 : Int) : Option (List Int) :=
 ask ((0 : Int) ≤ k0 ∧ k0 ≤ (↑LIM : Int)) <|
 ask (InI (k0 - (1 : Int))) <|
 (Al (M3 n0) (k0 - (1 : Int), List.replicate k0.toNat (0 : Int), i0)).bind fun q8_7 =>
 some q8_7
theorem Zs {i0 : Int} {k0 : Int} {n0 : Int} {v : (List Int)} (h : Hz i0 k0 n0 = some v) : Ret Try.prog Nv [Ae i0, Ae k0, Ae n0] ((slr true 1 Ae) v) := by
 refine A7 Aks (Nat.le_of_ble_eq_true rfl) ?_
 unfold Hz at h
 refine Ask.o h fun p1 h => MkQ.o Ae ((0 : Int)) rfl <| Ask.o h fun p2 h => LoopQ.o [8, 7, 0, 2] (Ni n0) (U4 n0) h (fun s o h => Aeh s o h) (by rfl) (fun _ => rfl) ?_
 rintro q8_7 h
 try dsimp only at h
 cases h; exact (by rfl)
noncomputable def Eu (list0 : List Int) : (Int × (List Int)) → Option ((Int × (List Int)) ⊕ (List Int)) := fun (x12, x3) =>
 if x12 < (↑list0.length : Int) then
 ask ((0 : Int) ≤ x12 ∧ x12 < (↑list0.length : Int)) <|
 ask ((x3).length + ([IntKind.u8.wrap ((nth list0 x12.toNat).fdiv ((2 : Int) ^ min (Int.toNat (8 : Int)) IntKind.i64.bits)), IntKind.u8.wrap (nth list0 x12.toNat)]).length ≤ LIM) <|
 ask (InI (x12 + (1 : Int))) <|
 some (.inl (x12 + (1 : Int), x3 ++ [IntKind.u8.wrap ((nth list0 x12.toNat).fdiv ((2 : Int) ^ min (Int.toNat (8 : Int)) IntKind.i64.bits)), IntKind.u8.wrap (nth list0 x12.toNat)]))
 else
 some (.inr x3)
def Pl (list0 : List Int) : (Int × (List Int)) → St := fun s => [(12, A.val (Ae s.1)), (11, A.val (Ae ((↑list0.length : Int)))), (10, A.val ((slr false 1 Ae) (list0))), (3, A.val ((slr true 1 (V.int IntKind.u8)) s.2))]
def V8 (_list0 : List Int) : (List Int) → Tgt
 | s => ((Ex.exit 0), [3], [(3, A.val ((slr true 1 (V.int IntKind.u8)) s))])
theorem Af4 {list0 : List Int} (s : (Int × (List Int))) (o : (Int × (List Int)) ⊕ (List Int)) (h : Eu list0 s = some o) : vc Try.prog V9 (C6 [12, 11, 10, 3] (Pl list0) (V8 list0) o) (Pl list0 s) := by
 obtain ⟨x12, x3⟩ := s
 unfold Eu at h
 try dsimp only at h
 refine Br.od h (fun p3 h => ?_) (fun p3 h => ?_)
 ·refine Len.map <| Ask.o h fun p4 h => Elem.o (by first | omega | (simp [A4] at * <;> omega)) <| BslQ.o (V.int IntKind.u8) ([IntKind.u8.wrap ((nth list0 x12.toNat).fdiv ((2 : Int) ^ min (Int.toNat (8 : Int)) IntKind.i64.bits)), IntKind.u8.wrap (nth list0 x12.toNat)]) (by exact fun _ => ⟨rfl, rfl⟩) (by first | rfl | (simp only [Aa, V.fz, fzL, V.up, upL, Ab, Ac, Ad, slr, List.cons_append, List.nil_append]; done) | simp [Aa, V.fz, fzL, V.up, upL, Ab, Ac, Ad, slr]) <| NoOwn.o (fun _ => rfl) <| AppQ.o (m := 1) (V.int IntKind.u8) (by exact fun _ => ⟨rfl, rfl⟩) (x3) ([IntKind.u8.wrap ((nth list0 x12.toNat).fdiv ((2 : Int) ^ min (Int.toNat (8 : Int)) IntKind.i64.bits)), IntKind.u8.wrap (nth list0 x12.toNat)]) (by rfl) (by rfl) h fun h => Ask.o h fun p5 h => ?_
  cases h; exact ⟨rfl, rfl⟩
 cases h; exact ⟨rfl, rfl⟩
noncomputable def Jt (list0 : (List Int)) : Option ByteArray :=
 ask (InI ((2 : Int) * (↑list0.length : Int))) <|
 ask ((0 : Int) ≤ (2 : Int) * (↑list0.length : Int) ∧ (2 : Int) * (↑list0.length : Int) ≤ (↑LIM : Int)) <|
 (Al (Eu list0) ((0 : Int), Ap Int)).bind fun q6_3 =>
 some (V6 q6_3)
theorem Ady {list0 : (List Int)} {v : ByteArray} (h : Jt list0 = some v) : Ret Try.prog P9 [(slr false 1 Ae) list0] (V.str v) := by
 refine A7 Aov (Nat.le_of_ble_eq_true rfl) ?_
 unfold Jt at h
 refine Len.map <| Ask.o h fun p1 h => Ask.o h fun p2 h => Len.map <| LoopQ.o [12, 11, 10, 3] (Pl list0) (V8 list0) h (fun s o h => Af4 s o h) (by rfl) (fun _ => rfl) ?_
 rintro q6_3 h
 try dsimp only at h
 refine BsQ.o q6_3 (by rfl) ?_
 cases h; exact (by rfl)
end Go.Proofs.Ytjcekpmojnnmbaa.Ax
