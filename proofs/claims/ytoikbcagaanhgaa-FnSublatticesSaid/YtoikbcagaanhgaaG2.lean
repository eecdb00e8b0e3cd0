/-
 What the functions compute, as functions on plain data, and that the program does compute it; written by program.
-/
import Derived.Test.YtoikbcagaanhgaaCode
namespace Go.Proofs.Ytoikbcagaanhgaa.Ax
open Go
set_option maxRecDepth 100000
set_option maxHeartbeats 4000000
noncomputable def Ew (o0 : List (List Bool)) (so0 : Int → Option Bool) : (Int × (List Int)) → Option ((Int × (List Int)) ⊕ (List Int)) := fun (x10, x5) =>
 if x10 < (↑o0.length : Int) then
 (so0 (x10)).bind fun r2 =>
 if (r2) = true then
 ask ((x5).length + ([x10]).length ≤ LIM) <|
 ask (InI (x10 + (1 : Int))) <|
 some (.inl (x10 + (1 : Int), x5 ++ [x10]))
 else
 ask (InI (x10 + (1 : Int))) <|
 some (.inl (x10 + (1 : Int), x5))
 else
 some (.inr x5)
def Jp (o0 : List (List Bool)) (f_so0 : Nat) (c_so0 : List V) : (Int × (List Int)) → St := fun s => [(10, A.val (Ab s.1)), (9, A.val (Ab ((↑o0.length : Int)))), (5, A.val ((slr true 1 Ab) s.2)), (1, A.val (V.fclo f_so0 c_so0))]
def Pg (_o0 : List (List Bool)) (_f_so0 : Nat) (_c_so0 : List V) : (List Int) → Tgt
 | s => ((Ex.exit 0), [5], [(5, A.val ((slr true 1 Ab) s))])
theorem Aa7 {o0 : List (List Bool)} {so0 : Int → Option Bool} {f_so0 : Nat} {c_so0 : List V} (h_so0 : ∀ w_0 v, so0 w_0 = some v → Ret Try.prog f_so0 ([Ab w_0] ++ fzL c_so0) (V.bool v)) (s : (Int × (List Int))) (o : (Int × (List Int)) ⊕ (List Int)) (h : Ew o0 so0 s = some o) : vc Try.prog Pj (Bp [10, 9, 5, 1] (Jp o0 f_so0 c_so0) (Pg o0 f_so0 c_so0) o) (Jp o0 f_so0 c_so0 s) := by
 obtain ⟨x10, x5⟩ := s
 unfold Ew at h
 try dsimp only at h
 refine Br.od h (fun p1 h => ?_) (fun p1 h => ?_)
 ·refine CloQ.o V.bool (by rfl) (fun _ => by first | rfl | simp [Jg, V.noFz, Ba, Aq, NoFz.eq]) h (fun r h => h_so0 _ _ h) (fun r2 h => ?_)
  refine Br.ob h (fun p3 h => ?_) (fun p3 h => ?_)
  ·refine BslQ.o Ab [x10] (by exact fun _ => ⟨rfl, rfl⟩) (by rfl) ?_
   refine NoOwn.o (fun _ => rfl) ?_
   refine AppQ.o (m := 1) Ab (by exact fun _ => ⟨rfl, rfl⟩) (x5) ([x10]) (by rfl) (by rfl) h fun h => ?_
   refine Ask.o h fun p4 h => ?_
   cases h; exact ⟨rfl, rfl⟩
  refine Ask.o h fun p5 h => ?_
  cases h; exact ⟨rfl, rfl⟩
 cases h; exact ⟨rfl, rfl⟩
noncomputable def E4 (o0 : (List (List Bool))) (so0 : (Int → Option Bool)) : Option (List Int) :=
 (Ai (Ew o0 so0) ((0 : Int), Ao Int)).bind fun q6_5 =>
 some q6_5
theorem Afp {o0 : (List (List Bool))} {so0 : (Int → Option Bool)} {f_so0 : Nat} {c_so0 : List V} (h_so0 : ∀ w_0 v, so0 w_0 = some v → Ret Try.prog f_so0 ([Ab w_0] ++ fzL c_so0) (V.bool v)) {v : (List Int)} (h : E4 o0 so0 = some v) : Ret Try.prog Mt [(slr false 1 (slr false 1 V.bool)) o0, V.fclo f_so0 c_so0] ((slr true 1 Ab) v) := by
 refine Av Af1 (Nat.le_of_ble_eq_true rfl) ?_
 unfold E4 at h
 refine BslQ.o Ab (Ao Int) (by exact fun _ => ⟨rfl, rfl⟩) (by rfl) ?_
 refine Len.map ?_
 refine LoopQ.o [10, 9, 5, 1] (Jp o0 f_so0 c_so0) (Pg o0 f_so0 c_so0) h (fun s o h => Aa7 h_so0 s o h) (by first | rfl | simp [restrict, look, Ad, V.fz, fzL, V.up, upL, Ae, Af, Ah, slr]) (fun _ => rfl) ?_
 rintro q6_5 h
 try dsimp only at h
 cases h; exact (by rfl)
noncomputable def Fk (list0 : List Int) (x0 : Int) : Int → Option (Int ⊕ (Unit ⊕ Unit)) := fun x5 =>
 if x5 < (↑list0.length : Int) then
 ask ((0 : Int) ≤ x5 ∧ x5 < (↑list0.length : Int)) <|
 if nth list0 x5.toNat = x0 then
 some (.inr (.inl ()))
 else
 ask (InI (x5 + (1 : Int))) <|
 some (.inl (x5 + (1 : Int)))
 else
 some (.inr (.inr ()))
def Ue (list0 : List Int) (x0 : Int) : Int → St := fun s => [(5, A.val (Ab s)), (0, A.val ((slr false 1 Ab) (list0))), (1, A.val (Ab (x0)))]
def Ac9 (_list0 : List Int) (_x0 : Int) : (Unit ⊕ Unit) → Tgt
 | (.inl _s) => (Ex.ret, [4], [(4, A.val (V.bool (true)))])
 | (.inr _s) => ((Ex.exit 0), [], [])
theorem Aol {list0 : List Int} {x0 : Int} (x5 : Int) (o : Int ⊕ (Unit ⊕ Unit)) (h : Fk list0 x0 x5 = some o) : vc Try.prog Ada (Bp [5, 0, 1] (Ue list0 x0) (Ac9 list0 x0) o) (Ue list0 x0 x5) := by
 unfold Fk at h
 try dsimp only at h
 refine Len.map ?_
 refine Br.od h (fun p1 h => ?_) (fun p1 h => ?_)
 ·refine Len.map ?_
  refine Ask.o h fun p2 h => ?_
  refine Elem.o (by first | omega | (simp [Am] at *; omega)) ?_
  refine Br.oe h (fun p3 h => ?_) (fun p3 h => ?_)
  ·cases h; exact ⟨rfl, rfl⟩
  refine Ask.o h fun p4 h => ?_
  cases h; exact ⟨rfl, rfl⟩
 cases h; exact ⟨rfl, rfl⟩
noncomputable def Q7 (list0 : (List Int)) (x0 : Int) : Option Bool :=
 (Ai (Fk list0 x0) (0 : Int)).bind fun t => match t with
 | (.inl _) => (some true)
 | (.inr _) => (some false)
theorem Av5 {list0 : (List Int)} {x0 : Int} {v : Bool} (h : Q7 list0 x0 = some v) : Ret Try.prog Adl [(slr false 1 Ab) list0, Ab x0] (V.bool v) := by
 refine Av Awl (Nat.le_of_ble_eq_true rfl) ?_
 unfold Q7 at h
 refine LoopQ.o [5, 0, 1] (Ue list0 x0) (Ac9 list0 x0) h (fun s o h => Aol s o h) (by first | rfl | simp [restrict, look, Ad, V.fz, fzL, V.up, upL, Ae, Af, Ah, slr]) (by rintro (_ | _) <;> rfl) ?_
 rintro (⟨⟩ | ⟨⟩) h
 ·try dsimp only at h
  cases h; exact (by rfl)
 try dsimp only at h
 cases h; exact (by rfl)
noncomputable def Fu (c0 : Sl1Cur) : Option (Int × Sl1Cur) :=
 ((if c0.at_ < (↑c0.code.length : Int) then
 ask ((0 : Int) ≤ c0.at_ ∧ c0.at_ < (↑c0.code.length : Int)) <|
 some (IntKind.i64.wrap (nth c0.code c0.at_.toNat))
 else
 some (0 : Int) : Option Int)).bind fun q3_3 =>
 ask (InI (c0.at_ + (1 : Int))) <|
 if c0.at_ + (1 : Int) ≤ (↑c0.code.length : Int) then
 some (q3_3, { code := c0.code, at_ := c0.at_ + (1 : Int), seed := IntKind.u64.wrap (IntKind.u64.wrap (IntKind.u64.wrap (c0.seed * (6364136223846793005 : Int)) + IntKind.u64.wrap q3_3) + (550289 : Int)) })
 else
 some (IntKind.i64.wrap (IntKind.u64.wrap (↑(BitVec.ofInt IntKind.u64.bits ((IntKind.u64.wrap (IntKind.u64.wrap (IntKind.u64.wrap (c0.seed * (6364136223846793005 : Int)) + IntKind.u64.wrap q3_3) + (550289 : Int))).fdiv ((2 : Int) ^ min (Int.toNat (40 : Int)) IntKind.u64.bits)) &&& BitVec.ofInt IntKind.u64.bits (255 : Int)).toNat : Int)), { code := c0.code, at_ := c0.at_ + (1 : Int), seed := IntKind.u64.wrap (IntKind.u64.wrap (IntKind.u64.wrap (c0.seed * (6364136223846793005 : Int)) + IntKind.u64.wrap q3_3) + (550289 : Int)) })
theorem Vf {c0 : Sl1Cur} {v : (Int × Sl1Cur)} (h : Fu c0 = some v) : Abw Try.prog J5 [(rP true (Ak false)) c0] (Ab v.1) 0 ((rP true (Ak false)) v.2) := by
 refine Vm Ajb (Nat.le_of_ble_eq_true rfl) ?_
 unfold Fu at h
 refine CutQ.o (fun t : Int => match t with | s => (Ex.normal, [3, 0, 62], [(3, A.val (Ab s)), (0, A.ref 62 []), (62, A.val ((rP true (Ak false)) (c0)))])) h ?_ ?_
 ·intro t h
  iterate 2 refine Cells.lit rfl rfl ?_
  refine Len.map ?_
  refine Br.od h (fun p1 h => ?_) (fun p1 h => ?_)
  ·refine Cells.lit rfl rfl ?_
   refine Cells.lit rfl rfl ?_
   refine Len.map ?_
   refine Ask.o h fun p2 h => ?_
   refine Elem.o (by first | omega | (simp [Am] at *; omega)) ?_
   cases h; exact ⟨rfl, rfl⟩
  cases h; exact ⟨rfl, rfl⟩
 rintro q3_3 h
 try dsimp only at h
 refine Cells.lit rfl rfl ?_
 refine Ask.o h fun p4 h => ?_
 refine SetKids.lit rfl ?_
 refine Cells.lit rfl rfl ?_
 refine SetKids.lit rfl ?_
 iterate 2 refine Cells.lit rfl rfl ?_
 refine Len.map ?_
 refine Br.od h (fun p5 h => ?_) (fun p5 h => ?_)
 ·cases h; exact ⟨(by rfl), (by rfl)⟩
 refine Cells.lit rfl rfl ?_
 cases h; exact ⟨(by rfl), (by rfl)⟩
noncomputable def Ed (n0 : Int) (_pairs0 : List (Int × Int)) : (Int × (List (List Bool))) → Option ((Int × (List (List Bool))) ⊕ (List (List Bool))) := fun (x6, x5) =>
 if x6 < n0 then
 ask ((0 : Int) ≤ n0 ∧ n0 ≤ (↑LIM : Int)) <|
 ask ((0 : Int) ≤ x6 ∧ x6 < (↑n0.toNat : Int)) <|
 ask ((x5).length + ([(List.replicate n0.toNat false).set x6.toNat true]).length ≤ LIM) <|
 ask (InI (x6 + (1 : Int))) <|
 some (.inl (x6 + (1 : Int), x5 ++ [(List.replicate n0.toNat false).set x6.toNat true]))
 else
 some (.inr x5)
def N3 (n0 : Int) (pairs0 : List (Int × Int)) : (Int × (List (List Bool))) → St := fun s => [(6, A.val (Ab s.1)), (5, A.val ((slr true 1 (slr true 1 V.bool)) s.2)), (4, A.val ((rP true (Ac true)) ({ Below := Ao (List Int) }))), (0, A.val (Ab (n0))), (1, A.val ((slr false 2 (rA2 Ab)) (pairs0)))]
def Vw (n0 : Int) (pairs0 : List (Int × Int)) : (List (List Bool)) → Tgt
 | s => ((Ex.exit 0), [5, 4, 0, 1], [(5, A.val ((slr true 1 (slr true 1 V.bool)) s)), (4, A.val ((rP true (Ac true)) ({ Below := Ao (List Int) }))), (0, A.val (Ab (n0))), (1, A.val ((slr false 2 (rA2 Ab)) (pairs0)))])
theorem Ahg {n0 : Int} {pairs0 : List (Int × Int)} (s : (Int × (List (List Bool)))) (o : (Int × (List (List Bool))) ⊕ (List (List Bool))) (h : Ed n0 pairs0 s = some o) : vc Try.prog Vx (Bp [6, 5, 4, 0, 1] (N3 n0 pairs0) (Vw n0 pairs0) o) (N3 n0 pairs0 s) := by
 obtain ⟨x6, x5⟩ := s
 unfold Ed at h
 try dsimp only at h
 refine Br.od h (fun p1 h => ?_) (fun p1 h => ?_)
 ·refine Ask.o h fun p2 h => ?_
  refine MkQ.o V.bool (false) rfl ?_
  refine Len.mrep ?_
  refine Ask.o h fun p3 h => ?_
  refine SetKids.one (fun _ => ⟨rfl, rfl⟩) (true) (by rfl) (by first | omega | (simp [Am] at *; omega)) ?_
  refine BslQ.o (slr true 1 V.bool) ([(List.replicate n0.toNat false).set x6.toNat true]) (by exact fun _ => ⟨rfl, rfl⟩) (by rfl) ?_
  refine NoOwn.own rfl ?_
  refine AppQ.o (m := 1) (slr true 1 V.bool) (by exact fun _ => ⟨rfl, rfl⟩) (x5) ([(List.replicate n0.toNat false).set x6.toNat true]) (by rfl) (by rfl) h fun h => ?_
  refine Ask.o h fun p4 h => ?_
  cases h; exact ⟨rfl, rfl⟩
 cases h; exact ⟨rfl, rfl⟩
noncomputable def Ef (_n0 : Int) (pairs0 : List (Int × Int)) : (Int × (List (List Bool))) → Option ((Int × (List (List Bool))) ⊕ (List (List Bool))) := fun (x8, x5) =>
 if x8 < (↑pairs0.length : Int) then
 ask ((0 : Int) ≤ x8 ∧ x8 < (↑pairs0.length : Int)) <|
 ask ((0 : Int) ≤ (nth pairs0 x8.toNat).fst ∧ (nth pairs0 x8.toNat).fst < (↑x5.length : Int)) <|
 ask ((0 : Int) ≤ x8 ∧ x8 < (↑pairs0.length : Int)) <|
 ask ((0 : Int) ≤ (nth pairs0 x8.toNat).snd ∧ (nth pairs0 x8.toNat).snd < (↑(nth x5 (nth pairs0 x8.toNat).fst.toNat).length : Int)) <|
 ask (InI (x8 + (1 : Int))) <|
 some (.inl (x8 + (1 : Int), x5.set (nth pairs0 x8.toNat).fst.toNat ((nth x5 (nth pairs0 x8.toNat).fst.toNat).set (nth pairs0 x8.toNat).snd.toNat true)))
 else
 some (.inr x5)
def Oi (n0 : Int) (pairs0 : List (Int × Int)) : (Int × (List (List Bool))) → St := fun s => [(8, A.val (Ab s.1)), (5, A.val ((slr true 1 (slr true 1 V.bool)) s.2)), (4, A.val ((rP true (Ac true)) ({ Below := Ao (List Int) }))), (0, A.val (Ab (n0))), (1, A.val ((slr false 2 (rA2 Ab)) (pairs0)))]
def Vk (n0 : Int) (_pairs0 : List (Int × Int)) : (List (List Bool)) → Tgt
 | s => ((Ex.exit 2), [5, 4, 0], [(5, A.val ((slr true 1 (slr true 1 V.bool)) s)), (4, A.val ((rP true (Ac true)) ({ Below := Ao (List Int) }))), (0, A.val (Ab (n0)))])
theorem Ag8 {n0 : Int} {pairs0 : List (Int × Int)} (s : (Int × (List (List Bool)))) (o : (Int × (List (List Bool))) ⊕ (List (List Bool))) (h : Ef n0 pairs0 s = some o) : vc Try.prog Wd (Bp [8, 5, 4, 0, 1] (Oi n0 pairs0) (Vk n0 pairs0) o) (Oi n0 pairs0 s) := by
 obtain ⟨x8, x5⟩ := s
 unfold Ef at h
 try dsimp only at h
 refine Len.map ?_
 refine Br.od h (fun p6 h => ?_) (fun p6 h => ?_)
 ·refine Len.map ?_
  refine Ask.o h fun p7 h => ?_
  refine Elem.o (by first | omega | (simp [Am] at *; omega)) ?_
  refine Ask.mk (by decide) ?_
  refine Idx.lit ?_
  refine Len.map ?_
  refine Ask.o h fun p8 h => ?_
  refine Cells.one (fun _ => ⟨rfl, rfl⟩) (by first | omega | (simp [Am] at *; omega)) ?_
  refine Len.map ?_
  refine Ask.o h fun p9 h => ?_
  refine Elem.o (by first | omega | (simp [Am] at *; omega)) ?_
  refine Ask.mk (by decide) ?_
  refine Idx.lit ?_
  refine Kid.one (fun _ => ⟨rfl, rfl⟩) (by first | omega | (simp [Am] at *; omega)) ?_
  refine Len.map ?_
  refine Ask.o h fun p10 h => ?_
  refine Kid.one (fun _ => ⟨rfl, rfl⟩) (by first | omega | (simp [Am] at *; omega)) ?_
  refine SetKids.one (fun _ => ⟨rfl, rfl⟩) (true) (by rfl) (by first | omega | (simp [Am] at *; omega)) ?_
  refine Kid.one (fun _ => ⟨rfl, rfl⟩) (by first | omega | (simp [Am] at *; omega)) ?_
  refine SetKids.one (fun _ => ⟨rfl, rfl⟩) ((nth x5 (nth pairs0 x8.toNat).fst.toNat).set (nth pairs0 x8.toNat).snd.toNat true) (by rfl) (by first | omega | (simp [Am] at *; omega)) ?_
  refine Ask.o h fun p11 h => ?_
  cases h; exact ⟨rfl, rfl⟩
 cases h; exact ⟨rfl, rfl⟩
noncomputable def D7 (n0 : Int) (x9 : Int) (x10 : Int) : (Int × (List (List Bool))) → Option ((Int × (List (List Bool))) ⊕ (List (List Bool))) := fun (x11, x5'') =>
 if x11 < n0 then
 ask ((0 : Int) ≤ x10 ∧ x10 < (↑x5''.length : Int)) <|
 ask ((0 : Int) ≤ x10 ∧ x10 < (↑x5''.length : Int)) <|
 ask ((0 : Int) ≤ x11 ∧ x11 < (↑(nth x5'' x10.toNat).length : Int)) <|
 if (nth (nth x5'' x10.toNat) x11.toNat) = true then
 ask ((0 : Int) ≤ x11 ∧ x11 < (↑(nth x5'' x10.toNat).length : Int)) <|
 ask (InI (x11 + (1 : Int))) <|
 some (.inl (x11 + (1 : Int), x5''.set x10.toNat ((nth x5'' x10.toNat).set x11.toNat true)))
 else
 ask ((0 : Int) ≤ x10 ∧ x10 < (↑x5''.length : Int)) <|
 ask ((0 : Int) ≤ x9 ∧ x9 < (↑(nth x5'' x10.toNat).length : Int)) <|
 if (nth (nth x5'' x10.toNat) x9.toNat) = true then
 ask ((0 : Int) ≤ x9 ∧ x9 < (↑x5''.length : Int)) <|
 ask ((0 : Int) ≤ x11 ∧ x11 < (↑(nth x5'' x9.toNat).length : Int)) <|
 ask ((0 : Int) ≤ x11 ∧ x11 < (↑(nth x5'' x10.toNat).length : Int)) <|
 ask (InI (x11 + (1 : Int))) <|
 some (.inl (x11 + (1 : Int), x5''.set x10.toNat ((nth x5'' x10.toNat).set x11.toNat (nth (nth x5'' x9.toNat) x11.toNat))))
 else
 ask ((0 : Int) ≤ x11 ∧ x11 < (↑(nth x5'' x10.toNat).length : Int)) <|
 ask (InI (x11 + (1 : Int))) <|
 some (.inl (x11 + (1 : Int), x5''.set x10.toNat ((nth x5'' x10.toNat).set x11.toNat false)))
 else
 some (.inr x5'')
def Nw (n0 : Int) (x9 : Int) (x10 : Int) : (Int × (List (List Bool))) → St := fun s => [(11, A.val (Ab s.1)), (10, A.val (Ab (x10))), (9, A.val (Ab (x9))), (5, A.val ((slr true 1 (slr true 1 V.bool)) s.2)), (4, A.val ((rP true (Ac true)) ({ Below := Ao (List Int) }))), (0, A.val (Ab (n0)))]
def Wh (n0 : Int) (x9 : Int) (x10 : Int) : (List (List Bool)) → Tgt
 | s => ((Ex.exit 8), [10, 9, 5, 4, 0], [(10, A.val (Ab (x10))), (9, A.val (Ab (x9))), (5, A.val ((slr true 1 (slr true 1 V.bool)) s)), (4, A.val ((rP true (Ac true)) ({ Below := Ao (List Int) }))), (0, A.val (Ab (n0)))])
theorem Ai9 {n0 : Int} {x9 : Int} {x10 : Int} (s : (Int × (List (List Bool)))) (o : (Int × (List (List Bool))) ⊕ (List (List Bool))) (h : D7 n0 x9 x10 s = some o) : vc Try.prog Vu (Bp [11, 10, 9, 5, 4, 0] (Nw n0 x9 x10) (Wh n0 x9 x10) o) (Nw n0 x9 x10 s) := by
 obtain ⟨x11, x5''⟩ := s
 unfold D7 at h
 try dsimp only at h
 refine Br.od h (fun p15 h => ?_) (fun p15 h => ?_)
 ·refine Len.map ?_
  refine Ask.o h fun p16 h => ?_
  refine Cells.one (fun _ => ⟨rfl, rfl⟩) (by first | omega | (simp [Am] at *; omega)) ?_
  refine Len.map ?_
  refine Ask.o h fun p17 h => ?_
  refine Cells.one (fun _ => ⟨rfl, rfl⟩) (by first | omega | (simp [Am] at *; omega)) ?_
  refine Kid.one (fun _ => ⟨rfl, rfl⟩) (by first | omega | (simp [Am] at *; omega)) ?_
  refine Len.map ?_
  refine Ask.o h fun p18 h => ?_
  refine Kid.one (fun _ => ⟨rfl, rfl⟩) (by first | omega | (simp [Am] at *; omega)) ?_
  refine Cells.one (fun _ => ⟨rfl, rfl⟩) (by first | omega | (simp [Am] at *; omega)) ?_
  refine Br.ob h (fun p19 h => ?_) (fun p19 h => ?_)
  ·refine Br.yes ?_
   iterate 8 refine Br.yes ?_
   refine Kid.one (fun _ => ⟨rfl, rfl⟩) (by first | omega | (simp [Am] at *; omega)) ?_
   refine Len.map ?_
   refine Ask.o h fun p20 h => ?_
   refine Kid.one (fun _ => ⟨rfl, rfl⟩) (by first | omega | (simp [Am] at *; omega)) ?_
   refine SetKids.one (fun _ => ⟨rfl, rfl⟩) (true) (by rfl) (by first | omega | (simp [Am] at *; omega)) ?_
   refine Kid.one (fun _ => ⟨rfl, rfl⟩) (by first | omega | (simp [Am] at *; omega)) ?_
   refine SetKids.one (fun _ => ⟨rfl, rfl⟩) ((nth x5'' x10.toNat).set x11.toNat true) (by rfl) (by first | omega | (simp [Am] at *; omega)) ?_
   refine Ask.o h fun p21 h => ?_
   cases h; exact ⟨rfl, rfl⟩
  iterate 2 refine Br.no ?_
  refine Len.map ?_
  refine Ask.o h fun p22 h => ?_
  refine Br.no ?_
  refine Cells.one (fun _ => ⟨rfl, rfl⟩) (by first | omega | (simp [Am] at *; omega)) ?_
  iterate 2 refine Br.no ?_
  refine Kid.one (fun _ => ⟨rfl, rfl⟩) (by first | omega | (simp [Am] at *; omega)) ?_
  refine Len.map ?_
  refine Ask.o h fun p23 h => ?_
  refine Br.no ?_
  refine Kid.one (fun _ => ⟨rfl, rfl⟩) (by first | omega | (simp [Am] at *; omega)) ?_
  refine Cells.one (fun _ => ⟨rfl, rfl⟩) (by first | omega | (simp [Am] at *; omega)) ?_
  refine Br.no ?_
  refine Br.ob h (fun p24 h => ?_) (fun p24 h => ?_)
  ·refine Br.yes ?_
   refine Br.yes ?_
   refine Len.map ?_
   refine Ask.o h fun p25 h => ?_
   refine Br.yes ?_
   refine Cells.one (fun _ => ⟨rfl, rfl⟩) (by first | omega | (simp [Am] at *; omega)) ?_
   iterate 2 refine Br.yes ?_
   refine Kid.one (fun _ => ⟨rfl, rfl⟩) (by first | omega | (simp [Am] at *; omega)) ?_
   refine Len.map ?_
   refine Ask.o h fun p26 h => ?_
   refine Br.yes ?_
   refine Kid.one (fun _ => ⟨rfl, rfl⟩) (by first | omega | (simp [Am] at *; omega)) ?_
   refine Cells.one (fun _ => ⟨rfl, rfl⟩) (by first | omega | (simp [Am] at *; omega)) ?_
   refine Br.no ?_
   refine Br.yes ?_
   refine Br.no ?_
   refine Kid.one (fun _ => ⟨rfl, rfl⟩) (by first | omega | (simp [Am] at *; omega)) ?_
   refine Len.map ?_
   refine Ask.o h fun p27 h => ?_
   refine Kid.one (fun _ => ⟨rfl, rfl⟩) (by first | omega | (simp [Am] at *; omega)) ?_
   refine SetKids.one (fun _ => ⟨rfl, rfl⟩) (nth (nth x5'' x9.toNat) x11.toNat) (by rfl) (by first | omega | (simp [Am] at *; omega)) ?_
   refine Kid.one (fun _ => ⟨rfl, rfl⟩) (by first | omega | (simp [Am] at *; omega)) ?_
   refine SetKids.one (fun _ => ⟨rfl, rfl⟩) ((nth x5'' x10.toNat).set x11.toNat (nth (nth x5'' x9.toNat) x11.toNat)) (by rfl) (by first | omega | (simp [Am] at *; omega)) ?_
   refine Ask.o h fun p28 h => ?_
   cases h; exact ⟨rfl, rfl⟩
  iterate 9 refine Br.no ?_
  refine Kid.one (fun _ => ⟨rfl, rfl⟩) (by first | omega | (simp [Am] at *; omega)) ?_
  refine Len.map ?_
  refine Ask.o h fun p29 h => ?_
  refine Kid.one (fun _ => ⟨rfl, rfl⟩) (by first | omega | (simp [Am] at *; omega)) ?_
  refine SetKids.one (fun _ => ⟨rfl, rfl⟩) (false) (by rfl) (by first | omega | (simp [Am] at *; omega)) ?_
  refine Kid.one (fun _ => ⟨rfl, rfl⟩) (by first | omega | (simp [Am] at *; omega)) ?_
  refine SetKids.one (fun _ => ⟨rfl, rfl⟩) ((nth x5'' x10.toNat).set x11.toNat false) (by rfl) (by first | omega | (simp [Am] at *; omega)) ?_
  refine Ask.o h fun p30 h => ?_
  cases h; exact ⟨rfl, rfl⟩
 cases h; exact ⟨rfl, rfl⟩
noncomputable def Eg (n0 : Int) (x9 : Int) : (Int × (List (List Bool))) → Option ((Int × (List (List Bool))) ⊕ (List (List Bool))) := fun (x10, x5') =>
 if x10 < n0 then
 (Ai (D7 n0 x9 x10) ((0 : Int), x5')).bind fun q31_5 =>
 ask (InI (x10 + (1 : Int))) <|
 some (.inl (x10 + (1 : Int), q31_5))
 else
 some (.inr x5')
def Ox (n0 : Int) (x9 : Int) : (Int × (List (List Bool))) → St := fun s => [(10, A.val (Ab s.1)), (9, A.val (Ab (x9))), (5, A.val ((slr true 1 (slr true 1 V.bool)) s.2)), (4, A.val ((rP true (Ac true)) ({ Below := Ao (List Int) }))), (0, A.val (Ab (n0)))]
def Ws (n0 : Int) (x9 : Int) : (List (List Bool)) → Tgt
 | s => ((Ex.exit 6), [9, 5, 4, 0], [(9, A.val (Ab (x9))), (5, A.val ((slr true 1 (slr true 1 V.bool)) s)), (4, A.val ((rP true (Ac true)) ({ Below := Ao (List Int) }))), (0, A.val (Ab (n0)))])
theorem Ait {n0 : Int} {x9 : Int} (s : (Int × (List (List Bool)))) (o : (Int × (List (List Bool))) ⊕ (List (List Bool))) (h : Eg n0 x9 s = some o) : vc Try.prog Wo (Bp [10, 9, 5, 4, 0] (Ox n0 x9) (Ws n0 x9) o) (Ox n0 x9 s) := by
 obtain ⟨x10, x5'⟩ := s
 unfold Eg at h
 try dsimp only at h
 refine Br.od h (fun p14 h => ?_) (fun p14 h => ?_)
 ·refine LoopQ.o [11, 10, 9, 5, 4, 0] (Nw n0 x9 x10) (Wh n0 x9 x10) h (fun s o h => Ai9 s o h) (by first | rfl | simp [restrict, look, Ad, V.fz, fzL, V.up, upL, Ae, Af, Ah, slr]) (fun _ => rfl) ?_
  rintro q31_5 h
  try dsimp only at h
  refine Ask.o h fun p32 h => ?_
  cases h; exact ⟨rfl, rfl⟩
 cases h; exact ⟨rfl, rfl⟩
noncomputable def D5 (n0 : Int) : (Int × (List (List Bool))) → Option ((Int × (List (List Bool))) ⊕ (List (List Bool))) := fun (x9, x5) =>
 if x9 < n0 then
 (Ai (Eg n0 x9) ((0 : Int), x5)).bind fun q33_5 =>
 ask (InI (x9 + (1 : Int))) <|
 some (.inl (x9 + (1 : Int), q33_5))
 else
 some (.inr x5)
def N6 (n0 : Int) : (Int × (List (List Bool))) → St := fun s => [(9, A.val (Ab s.1)), (5, A.val ((slr true 1 (slr true 1 V.bool)) s.2)), (4, A.val ((rP true (Ac true)) ({ Below := Ao (List Int) }))), (0, A.val (Ab (n0)))]
def Wg (n0 : Int) : (List (List Bool)) → Tgt
 | s => ((Ex.exit 4), [5, 4, 0], [(5, A.val ((slr true 1 (slr true 1 V.bool)) s)), (4, A.val ((rP true (Ac true)) ({ Below := Ao (List Int) }))), (0, A.val (Ab (n0)))])
theorem Ahq {n0 : Int} (s : (Int × (List (List Bool)))) (o : (Int × (List (List Bool))) ⊕ (List (List Bool))) (h : D5 n0 s = some o) : vc Try.prog Wj (Bp [9, 5, 4, 0] (N6 n0) (Wg n0) o) (N6 n0 s) := by
 obtain ⟨x9, x5⟩ := s
 unfold D5 at h
 try dsimp only at h
 refine Br.od h (fun p13 h => ?_) (fun p13 h => ?_)
 ·refine LoopQ.o [10, 9, 5, 4, 0] (Ox n0 x9) (Ws n0 x9) h (fun s o h => Ait s o h) (by first | rfl | simp [restrict, look, Ad, V.fz, fzL, V.up, upL, Ae, Af, Ah, slr]) (fun _ => rfl) ?_
  rintro q33_5 h
  try dsimp only at h
  refine Ask.o h fun p34 h => ?_
  cases h; exact ⟨rfl, rfl⟩
 cases h; exact ⟨rfl, rfl⟩
noncomputable def Ek (n0 : Int) (q35_5 : List (List Bool)) (x13 : Int) (_x12 : SPoset) : (Int × (List Int)) → Option ((Int × (List Int)) ⊕ (List Int)) := fun (x15, x14) =>
 if x15 < n0 then
 ask ((0 : Int) ≤ x15 ∧ x15 < (↑q35_5.length : Int)) <|
 ask ((0 : Int) ≤ x13 ∧ x13 < (↑(nth q35_5 x15.toNat).length : Int)) <|
 if (nth (nth q35_5 x15.toNat) x13.toNat) = true then
 ask ((x14).length + ([x15]).length ≤ LIM) <|
 ask (InI (x15 + (1 : Int))) <|
 some (.inl (x15 + (1 : Int), x14 ++ [x15]))
 else
 ask (InI (x15 + (1 : Int))) <|
 some (.inl (x15 + (1 : Int), x14))
 else
 some (.inr x14)
def Ov (n0 : Int) (q35_5 : List (List Bool)) (x13 : Int) (x12 : SPoset) : (Int × (List Int)) → St := fun s => [(15, A.val (Ab s.1)), (14, A.val ((slr true 1 Ab) s.2)), (13, A.val (Ab (x13))), (12, A.val ((rP true (Ac true)) (x12))), (5, A.val ((slr true 1 (slr true 1 V.bool)) (q35_5))), (4, A.val ((rP true (Ac true)) ({ Below := Ao (List Int) }))), (0, A.val (Ab (n0)))]
def Vj (n0 : Int) (q35_5 : List (List Bool)) (x13 : Int) (x12 : SPoset) : (List Int) → Tgt
 | s => ((Ex.exit 12), [14, 13, 12, 5, 4, 0], [(14, A.val ((slr true 1 Ab) s)), (13, A.val (Ab (x13))), (12, A.val ((rP true (Ac true)) (x12))), (5, A.val ((slr true 1 (slr true 1 V.bool)) (q35_5))), (4, A.val ((rP true (Ac true)) ({ Below := Ao (List Int) }))), (0, A.val (Ab (n0)))])
theorem Ag2 {n0 : Int} {q35_5 : List (List Bool)} {x13 : Int} {x12 : SPoset} (s : (Int × (List Int))) (o : (Int × (List Int)) ⊕ (List Int)) (h : Ek n0 q35_5 x13 x12 s = some o) : vc Try.prog V9 (Bp [15, 14, 13, 12, 5, 4, 0] (Ov n0 q35_5 x13 x12) (Vj n0 q35_5 x13 x12) o) (Ov n0 q35_5 x13 x12 s) := by
 obtain ⟨x15, x14⟩ := s
 unfold Ek at h
 try dsimp only at h
 refine Br.od h (fun p37 h => ?_) (fun p37 h => ?_)
 ·refine Len.map ?_
  refine Ask.o h fun p38 h => ?_
  refine Cells.one (fun _ => ⟨rfl, rfl⟩) (by first | omega | (simp [Am] at *; omega)) ?_
  refine Kid.one (fun _ => ⟨rfl, rfl⟩) (by first | omega | (simp [Am] at *; omega)) ?_
  refine Len.map ?_
  refine Ask.o h fun p39 h => ?_
  refine Kid.one (fun _ => ⟨rfl, rfl⟩) (by first | omega | (simp [Am] at *; omega)) ?_
  refine Cells.one (fun _ => ⟨rfl, rfl⟩) (by first | omega | (simp [Am] at *; omega)) ?_
  refine Br.ob h (fun p40 h => ?_) (fun p40 h => ?_)
  ·refine BslQ.o Ab [x15] (by exact fun _ => ⟨rfl, rfl⟩) (by rfl) ?_
   refine NoOwn.o (fun _ => rfl) ?_
   refine AppQ.o (m := 1) Ab (by exact fun _ => ⟨rfl, rfl⟩) (x14) ([x15]) (by rfl) (by rfl) h fun h => ?_
   refine Ask.o h fun p41 h => ?_
   cases h; exact ⟨rfl, rfl⟩
  refine Ask.o h fun p42 h => ?_
  cases h; exact ⟨rfl, rfl⟩
 cases h; exact ⟨rfl, rfl⟩
noncomputable def Ej (n0 : Int) (q35_5 : List (List Bool)) : (Int × SPoset) → Option ((Int × SPoset) ⊕ SPoset) := fun (x13, x12) =>
 if x13 < n0 then
 (Ai (Ek n0 q35_5 x13 x12) ((0 : Int), Ao Int)).bind fun q43_14 =>
 ask ((x12.Below).length + ([q43_14]).length ≤ LIM) <|
 ask (InI (x13 + (1 : Int))) <|
 some (.inl (x13 + (1 : Int), { Below := x12.Below ++ [q43_14] }))
 else
 some (.inr x12)
def Ns (n0 : Int) (q35_5 : List (List Bool)) : (Int × SPoset) → St := fun s => [(13, A.val (Ab s.1)), (12, A.val ((rP true (Ac true)) s.2)), (5, A.val ((slr true 1 (slr true 1 V.bool)) (q35_5))), (4, A.val ((rP true (Ac true)) ({ Below := Ao (List Int) }))), (0, A.val (Ab (n0)))]
def Va (_n0 : Int) (_q35_5 : List (List Bool)) : SPoset → Tgt
 | s => ((Ex.exit 10), [12, 4], [(12, A.val ((rP true (Ac true)) s)), (4, A.val ((rP true (Ac true)) ({ Below := Ao (List Int) })))])
theorem Ahx {n0 : Int} {q35_5 : List (List Bool)} (s : (Int × SPoset)) (o : (Int × SPoset) ⊕ SPoset) (h : Ej n0 q35_5 s = some o) : vc Try.prog Vc (Bp [13, 12, 5, 4, 0] (Ns n0 q35_5) (Va n0 q35_5) o) (Ns n0 q35_5 s) := by
 obtain ⟨x13, x12⟩ := s
 unfold Ej at h
 try dsimp only at h
 refine Br.od h (fun p36 h => ?_) (fun p36 h => ?_)
 ·refine BslQ.o Ab (Ao Int) (by exact fun _ => ⟨rfl, rfl⟩) (by rfl) ?_
  refine LoopQ.o [15, 14, 13, 12, 5, 4, 0] (Ov n0 q35_5 x13 x12) (Vj n0 q35_5 x13 x12) h (fun s o h => Ag2 s o h) (by first | rfl | simp [restrict, look, Ad, V.fz, fzL, V.up, upL, Ae, Af, Ah, slr]) (fun _ => rfl) ?_
  rintro q43_14 h
  try dsimp only at h
  refine Cells.lit rfl rfl ?_
  refine BslQ.o (slr true 1 Ab) [q43_14] (by exact fun _ => ⟨rfl, rfl⟩) (by rfl) ?_
  refine NoOwn.own rfl ?_
  iterate 2 refine Kid.lit rfl rfl ?_
  refine SetKids.lit rfl ?_
  refine AppQ.o (m := 1) (slr true 1 Ab) (by exact fun _ => ⟨rfl, rfl⟩) (x12.Below) ([q43_14]) (by rfl) (by rfl) h fun h => ?_
  refine SetKids.lit rfl ?_
  refine Ask.o h fun p44 h => ?_
  cases h; exact ⟨rfl, rfl⟩
 cases h; exact ⟨rfl, rfl⟩
noncomputable def A3 (n0 : Int) (pairs0 : (List (Int × Int))) : Option SPoset :=
 (Ai (Ed n0 pairs0) ((0 : Int), Ao (List Bool))).bind fun q5_5 =>
 (Ai (Ef n0 pairs0) ((0 : Int), q5_5)).bind fun q12_5 =>
 (Ai (D5 n0) ((0 : Int), q12_5)).bind fun q35_5 =>
 (Ai (Ej n0 q35_5) ((0 : Int), { Below := Ao (List Int) })).bind fun q45_12 =>
 some q45_12
theorem Bq {n0 : Int} {pairs0 : (List (Int × Int))} {v : SPoset} (h : A3 n0 pairs0 = some v) : Ret Try.prog Bg [Ab n0, (slr false 2 (rA2 Ab)) pairs0] ((Ac true) v) := by
 refine Av An7 (Nat.le_of_ble_eq_true rfl) ?_
 unfold A3 at h
 refine BslQ.o (slr true 1 V.bool) (Ao (List Bool)) (by exact fun _ => ⟨rfl, rfl⟩) (by rfl) ?_
 refine LoopQ.o [6, 5, 4, 0, 1] (N3 n0 pairs0) (Vw n0 pairs0) h (fun s o h => Ahg s o h) (by first | rfl | simp [restrict, look, Ad, V.fz, fzL, V.up, upL, Ae, Af, Ah, slr]) (fun _ => rfl) ?_
 rintro q5_5 h
 try dsimp only at h
 refine LoopQ.o [8, 5, 4, 0, 1] (Oi n0 pairs0) (Vk n0 pairs0) h (fun s o h => Ag8 s o h) (by first | rfl | simp [restrict, look, Ad, V.fz, fzL, V.up, upL, Ae, Af, Ah, slr]) (fun _ => rfl) ?_
 rintro q12_5 h
 try dsimp only at h
 refine LoopQ.o [9, 5, 4, 0] (N6 n0) (Wg n0) h (fun s o h => Ahq s o h) (by first | rfl | simp [restrict, look, Ad, V.fz, fzL, V.up, upL, Ae, Af, Ah, slr]) (fun _ => rfl) ?_
 rintro q35_5 h
 try dsimp only at h
 refine BslQ.o (slr true 1 Ab) (Ao (List Int)) (by exact fun _ => ⟨rfl, rfl⟩) (by rfl) ?_
 refine SetKids.lit rfl ?_
 refine LoopQ.o [13, 12, 5, 4, 0] (Ns n0 q35_5) (Va n0 q35_5) h (fun s o h => Ahx s o h) (by first | rfl | simp [restrict, look, Ad, V.fz, fzL, V.up, upL, Ae, Af, Ah, slr]) (fun _ => rfl) ?_
 rintro q45_12 h
 try dsimp only at h
 refine Cells.lit rfl rfl ?_
 refine SetKids.lit rfl ?_
 cases h; exact (by rfl)
end Go.Proofs.Ytoikbcagaanhgaa.Ax
