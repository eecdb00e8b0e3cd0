/-
 What the functions compute, as functions on plain data, and that the program does compute it; written by program.
-/
import Derived.Test.YthagmdhmgailfaaGreatCode
namespace Go.Proofs.YthagmdhmgailfaaGreat.Ax
open Go
set_option maxRecDepth 100000
set_option maxHeartbeats 4000000
noncomputable def Fr (p0 : List Int) (q5_2 : Int) (q5_1 : Int) : (Int × (List Int)) → Option ((Int × (List Int)) ⊕ (List Int)) := fun (x26, x40) =>
 if x26 < (↑p0.length : Int) then
 ask ((0 : Int) ≤ x26 ∧ x26 < (↑x40.length : Int)) <|
 if nth x40 x26.toNat = q5_2 then
 ask ((0 : Int) ≤ x26 ∧ x26 < (↑x40.length : Int)) <|
 ask (InI (x26 + (1 : Int))) <|
 some (.inl (x26 + (1 : Int), x40.set x26.toNat q5_1))
 else
 ask (InI (x26 + (1 : Int))) <|
 some (.inl (x26 + (1 : Int), x40))
 else
 some (.inr x40)
def O8 (p0 : List Int) (q5_2 : Int) (q5_1 : Int) : (Int × (List Int)) → St := fun s => [(26, A.val (Af s.1)), (25, A.val (Af ((↑p0.length : Int)))), (2, A.val (Af (q5_2))), (1, A.val (Af (q5_1))), (0, A.ref 40 []), (40, A.val ((slr true 1 Af) s.2))]
def Xi (_p0 : List Int) (_q5_2 : Int) (_q5_1 : Int) : (List Int) → Tgt
 | s => ((Ex.exit 0), [40], [(40, A.val ((slr true 1 Af) s))])
theorem Ahu {p0 : List Int} {q5_2 : Int} {q5_1 : Int} (s : (Int × (List Int))) (o : (Int × (List Int)) ⊕ (List Int)) (h : Fr p0 q5_2 q5_1 s = some o) : vc Tryz.prog Xn (Da [26, 25, 2, 1, 0, 40] (O8 p0 q5_2 q5_1) (Xi p0 q5_2 q5_1) o) (O8 p0 q5_2 q5_1 s) := by
 obtain ⟨x26, x40⟩ := s
 unfold Fr at h
 try dsimp only at h
 refine Br.od h (fun p6 h => ?_) (fun p6 h => ?_)
 ·refine Len.map <| Ask.o h fun p7 h => Cells.one (fun _ => ⟨rfl, rfl⟩) (by first | omega | (simp [Ar] at * <;> omega)) <| Br.oe h (fun p8 h => ?_) (fun p8 h => ?_)
  ·refine Len.map <| Ask.o h fun p9 h => SetKids.one (fun _ => ⟨rfl, rfl⟩) (q5_1) (by rfl) (by first | omega | (simp [Ar] at * <;> omega)) <| Ask.o h fun p10 h => ?_
   cases h; exact ⟨rfl, rfl⟩
  refine Ask.o h fun p11 h => ?_
  cases h; exact ⟨rfl, rfl⟩
 cases h; exact ⟨rfl, rfl⟩
noncomputable def Ic (p0 : (List Int)) (x0 : Int) (y0 : Int) : Option (Bool × (List Int)) :=
 ask ((0 : Int) ≤ x0 ∧ x0 < (↑p0.length : Int)) <|
 ask ((0 : Int) ≤ y0 ∧ y0 < (↑p0.length : Int)) <|
 if nth p0 x0.toNat = nth p0 y0.toNat then
 some (false, p0)
 else
 ((if nth p0 x0.toNat > nth p0 y0.toNat then
 some (nth p0 x0.toNat, nth p0 y0.toNat)
 else
 some (nth p0 y0.toNat, nth p0 x0.toNat) : Option (Int × Int))).bind fun (q5_2, q5_1) =>
 (Al (Fr p0 q5_2 q5_1) ((0 : Int), p0)).bind fun q12_40 =>
 some (true, q12_40)
theorem Wp {p0 : (List Int)} {x0 : Int} {y0 : Int} {v : (Bool × (List Int))} (h : Ic p0 x0 y0 = some v) : Wy Tryz.prog Mf [(slr true 1 Af) p0, Af x0, Af y0] (V.bool v.1) 0 ((slr true 1 Af) v.2) := by
 refine N6 Aow (Nat.le_of_ble_eq_true rfl) ?_
 unfold Ic at h
 refine Len.map <| Ask.o h fun p1 h => Cells.one (fun _ => ⟨rfl, rfl⟩) (by first | omega | (simp [Ar] at * <;> omega)) <| Len.map <| Ask.o h fun p2 h => Cells.one (fun _ => ⟨rfl, rfl⟩) (by first | omega | (simp [Ar] at * <;> omega)) <| Br.oe h (fun p3 h => ?_) (fun p3 h => ?_)
 ·cases h; exact ⟨(by rfl), (by rfl)⟩
 refine CutQ.o (fun t : (Int × Int) => match t with | s => (Ex.normal, [2, 1, 0, 40], [(2, A.val (Af s.1)), (1, A.val (Af s.2)), (0, A.ref 40 []), (40, A.val ((slr true 1 Af) (p0)))])) h ?_ ?_
 ·intro t h
  refine Br.od h (fun p4 h => ?_) (fun p4 h => ?_)
  ·cases h; exact ⟨rfl, rfl⟩
  cases h; exact ⟨rfl, rfl⟩
 rintro ⟨q5_2, q5_1⟩ h
 try dsimp only at h
 refine Len.map <| LoopQ.o [26, 25, 2, 1, 0, 40] (O8 p0 q5_2 q5_1) (Xi p0 q5_2 q5_1) h (fun s o h => Ahu s o h) (by rfl) (fun _ => rfl) ?_
 rintro q12_40 h
 try dsimp only at h
 cases h; exact ⟨(by rfl), (by rfl)⟩
noncomputable def E9 (a0 : Int) (b0 : Int) : Option Int :=
 if a0 < b0 then
 some a0
 else
 some b0
theorem Za {a0 : Int} {b0 : Int} {v : Int} (h : E9 a0 b0 = some v) : Ret Tryz.prog Mj [Af a0, Af b0] (Af v) := by
 refine Ay Akg (Nat.le_of_ble_eq_true rfl) ?_
 unfold E9 at h
 refine Br.od h (fun p1 h => ?_) (fun p1 h => ?_)
 ·cases h; exact (by rfl)
 cases h; exact (by rfl)
noncomputable def Io (a0 : Int) (b0 : Int) : Option Int :=
 if a0 > b0 then
 some a0
 else
 some b0
theorem Aay {a0 : Int} {b0 : Int} {v : Int} (h : Io a0 b0 = some v) : Ret Tryz.prog N2 [Af a0, Af b0] (Af v) := by
 refine Ay Aln (Nat.le_of_ble_eq_true rfl) ?_
 unfold Io at h
 refine Br.od h (fun p1 h => ?_) (fun p1 h => ?_)
 ·cases h; exact (by rfl)
 cases h; exact (by rfl)
noncomputable def Fo (list0 : List Int) : (Int × (List Int)) → Option ((Int × (List Int)) ⊕ (List Int)) := fun (x12, x3) =>
 if x12 < (↑list0.length : Int) then
 ask ((0 : Int) ≤ x12 ∧ x12 < (↑list0.length : Int)) <|
 ask ((x3).length + ([IntKind.u8.wrap ((nth list0 x12.toNat).fdiv ((2 : Int) ^ min (Int.toNat (8 : Int)) IntKind.i64.bits)), IntKind.u8.wrap (nth list0 x12.toNat)]).length ≤ LIM) <|
 ask (InI (x12 + (1 : Int))) <|
 some (.inl (x12 + (1 : Int), x3 ++ [IntKind.u8.wrap ((nth list0 x12.toNat).fdiv ((2 : Int) ^ min (Int.toNat (8 : Int)) IntKind.i64.bits)), IntKind.u8.wrap (nth list0 x12.toNat)]))
 else
 some (.inr x3)
def Pw (list0 : List Int) : (Int × (List Int)) → St := fun s => [(12, A.val (Af s.1)), (11, A.val (Af ((↑list0.length : Int)))), (10, A.val ((slr false 1 Af) (list0))), (3, A.val ((slr true 1 (V.int IntKind.u8)) s.2))]
def Xr (_list0 : List Int) : (List Int) → Tgt
 | s => ((Ex.exit 0), [3], [(3, A.val ((slr true 1 (V.int IntKind.u8)) s))])
theorem Ahn {list0 : List Int} (s : (Int × (List Int))) (o : (Int × (List Int)) ⊕ (List Int)) (h : Fo list0 s = some o) : vc Tryz.prog Xf (Da [12, 11, 10, 3] (Pw list0) (Xr list0) o) (Pw list0 s) := by
 obtain ⟨x12, x3⟩ := s
 unfold Fo at h
 try dsimp only at h
 refine Br.od h (fun p3 h => ?_) (fun p3 h => ?_)
 ·refine Len.map <| Ask.o h fun p4 h => Elem.o (by first | omega | (simp [Ar] at * <;> omega)) <| BslQ.o (V.int IntKind.u8) ([IntKind.u8.wrap ((nth list0 x12.toNat).fdiv ((2 : Int) ^ min (Int.toNat (8 : Int)) IntKind.i64.bits)), IntKind.u8.wrap (nth list0 x12.toNat)]) (by exact fun _ => ⟨rfl, rfl⟩) (by rfl) <| NoOwn.o (fun _ => rfl) <| AppQ.o (m := 1) (V.int IntKind.u8) (by exact fun _ => ⟨rfl, rfl⟩) (x3) ([IntKind.u8.wrap ((nth list0 x12.toNat).fdiv ((2 : Int) ^ min (Int.toNat (8 : Int)) IntKind.i64.bits)), IntKind.u8.wrap (nth list0 x12.toNat)]) (by rfl) (by rfl) h fun h => Ask.o h fun p5 h => ?_
  cases h; exact ⟨rfl, rfl⟩
 cases h; exact ⟨rfl, rfl⟩
noncomputable def Ju (list0 : (List Int)) : Option ByteArray :=
 ask (InI ((2 : Int) * (↑list0.length : Int))) <|
 ask ((0 : Int) ≤ (2 : Int) * (↑list0.length : Int) ∧ (2 : Int) * (↑list0.length : Int) ≤ (↑LIM : Int)) <|
 (Al (Fo list0) ((0 : Int), Aq Int)).bind fun q6_3 =>
 some (Xs q6_3)
theorem Adx {list0 : (List Int)} {v : ByteArray} (h : Ju list0 = some v) : Ret Tryz.prog P3 [(slr false 1 Af) list0] (V.str v) := by
 refine Ay An2 (Nat.le_of_ble_eq_true rfl) ?_
 unfold Ju at h
 refine Len.map <| Ask.o h fun p1 h => Ask.o h fun p2 h => Len.map <| LoopQ.o [12, 11, 10, 3] (Pw list0) (Xr list0) h (fun s o h => Ahn s o h) (by rfl) (fun _ => rfl) ?_
 rintro q6_3 h
 try dsimp only at h
 refine BsQ.o q6_3 (by rfl) ?_
 cases h; exact (by rfl)
noncomputable def Gz (l0 : (List Int)) : Option (List Int) :=
 ask ((Aq Int).length + (l0).length ≤ LIM) <|
 some (Aq Int ++ l0)
theorem P2 {l0 : (List Int)} {v : (List Int)} (h : Gz l0 = some v) : Ret Tryz.prog J0 [(slr false 1 Af) l0] ((slr true 1 Af) v) := by
 refine Ay Apd (Nat.le_of_ble_eq_true rfl) ?_
 unfold Gz at h
 refine BslQ.o Af (Aq Int) (by exact fun _ => ⟨rfl, rfl⟩) (by rfl) <| AppQ.o (m := 1) Af (by exact fun _ => ⟨rfl, rfl⟩) (Aq Int) (l0) (by rfl) (by rfl) h fun h => ?_
 cases h; exact (by rfl)
noncomputable def Ev (n0 : Int) : (Int × (List Int) × Int) → Option ((Int × (List Int) × Int) ⊕ (List Int)) := fun (x8, x7, x2) =>
 if x8 ≥ (0 : Int) then
 ask (n0 ≠ (0 : Int)) <|
 ask ((0 : Int) ≤ x8 ∧ x8 < (↑x7.length : Int)) <|
 ask (n0 ≠ (0 : Int) ∧ InI (x2.tdiv n0)) <|
 ask (InI (x8 - (1 : Int))) <|
 some (.inl (x8 - (1 : Int), x7.set x8.toNat (x2.tmod n0), x2.tdiv n0))
 else
 some (.inr x7)
def Nr (n0 : Int) : (Int × (List Int) × Int) → St := fun s => [(8, A.val (Af s.1)), (7, A.val ((slr true 1 Af) s.2.1)), (0, A.val (Af (n0))), (2, A.val (Af s.2.2))]
def Vu (_n0 : Int) : (List Int) → Tgt
 | s => ((Ex.exit 0), [7], [(7, A.val ((slr true 1 Af) s))])
theorem Afo {n0 : Int} (s : (Int × (List Int) × Int)) (o : (Int × (List Int) × Int) ⊕ (List Int)) (h : Ev n0 s = some o) : vc Tryz.prog V7 (Da [8, 7, 0, 2] (Nr n0) (Vu n0) o) (Nr n0 s) := by
 obtain ⟨x8, x7, x2⟩ := s
 unfold Ev at h
 try dsimp only at h
 refine Br.od h (fun p3 h => ?_) (fun p3 h => ?_)
 ·refine Ask.o h fun p4 h => Len.map <| Ask.o h fun p5 h => SetKids.one (fun _ => ⟨rfl, rfl⟩) (x2.tmod n0) (by rfl) (by first | omega | (simp [Ar] at * <;> omega)) <| Ask.o h fun p6 h => Ask.o h fun p7 h => ?_
  cases h; exact ⟨rfl, rfl⟩
 cases h; exact ⟨rfl, rfl⟩
noncomputable def Ku (n0 : Int) (arity0 : Int) (at0 : Int) : Option (List Int) :=
 ask ((0 : Int) ≤ arity0 ∧ arity0 ≤ (↑LIM : Int)) <|
 ask (InI (arity0 - (1 : Int))) <|
 (Al (Ev n0) (arity0 - (1 : Int), List.replicate arity0.toNat (0 : Int), at0)).bind fun q8_7 =>
 some q8_7
theorem Ame {n0 : Int} {arity0 : Int} {at0 : Int} {v : (List Int)} (h : Ku n0 arity0 at0 = some v) : Ret Tryz.prog Tp [Af n0, Af arity0, Af at0] ((slr true 1 Af) v) := by
 refine Ay Al4 (Nat.le_of_ble_eq_true rfl) ?_
 unfold Ku at h
 refine Ask.o h fun p1 h => MkQ.o Af ((0 : Int)) rfl <| Ask.o h fun p2 h => LoopQ.o [8, 7, 0, 2] (Nr n0) (Vu n0) h (fun s o h => Afo s o h) (by rfl) (fun _ => rfl) ?_
 rintro q8_7 h
 try dsimp only at h
 cases h; exact (by rfl)
noncomputable def D7 (a0 : SAlgebra) (_op0 : Int) (args0 : List Int) : (Int × Int) → Option ((Int × Int) ⊕ Int) := fun (x8, x7) =>
 if x8 < (↑args0.length : Int) then
 ask (InI (x7 * a0.Size)) <|
 ask ((0 : Int) ≤ x8 ∧ x8 < (↑args0.length : Int)) <|
 ask (InI (x7 * a0.Size + nth args0 x8.toNat)) <|
 ask (InI (x8 + (1 : Int))) <|
 some (.inl (x8 + (1 : Int), x7 * a0.Size + nth args0 x8.toNat))
 else
 some (.inr x7)
def Mg (a0 : SAlgebra) (op0 : Int) (args0 : List Int) : (Int × Int) → St := fun s => [(8, A.val (Af s.1)), (7, A.val (Af s.2)), (3, A.val ((rP true (Ag false)) (a0))), (1, A.val (Af (op0))), (2, A.val ((slr false 1 Af) (args0)))]
def Tf (a0 : SAlgebra) (op0 : Int) (_args0 : List Int) : Int → Tgt
 | s => ((Ex.exit 0), [7, 3, 1], [(7, A.val (Af s)), (3, A.val ((rP true (Ag false)) (a0))), (1, A.val (Af (op0)))])
theorem Aen {a0 : SAlgebra} {op0 : Int} {args0 : List Int} (s : (Int × Int)) (o : (Int × Int) ⊕ Int) (h : D7 a0 op0 args0 s = some o) : vc Tryz.prog Tc (Da [8, 7, 3, 1, 2] (Mg a0 op0 args0) (Tf a0 op0 args0) o) (Mg a0 op0 args0 s) := by
 obtain ⟨x8, x7⟩ := s
 unfold D7 at h
 try dsimp only at h
 refine Len.map <| Br.od h (fun p1 h => ?_) (fun p1 h => ?_)
 ·refine Cells.lit rfl rfl <| Ask.o h fun p2 h => Len.map <| Ask.o h fun p3 h => Elem.o (by first | omega | (simp [Ar] at * <;> omega)) <| Ask.o h fun p4 h => Ask.o h fun p5 h => ?_
  cases h; exact ⟨rfl, rfl⟩
 cases h; exact ⟨rfl, rfl⟩
noncomputable def Ji (a0 : SAlgebra) (op0 : Int) (args0 : (List Int)) : Option Int :=
 (Al (D7 a0 op0 args0) ((0 : Int), (0 : Int))).bind fun q6_7 =>
 ask ((0 : Int) ≤ op0 ∧ op0 < (↑a0.Ops.length : Int)) <|
 ask ((0 : Int) ≤ q6_7 ∧ q6_7 < (↑(nth a0.Ops op0.toNat).Table.length : Int)) <|
 some (nth (nth a0.Ops op0.toNat).Table q6_7.toNat)
theorem Ajd {a0 : SAlgebra} {op0 : Int} {args0 : (List Int)} {v : Int} (h : Ji a0 op0 args0 = some v) : Ret Tryz.prog Rs [(Ag false) a0, Af op0, (slr false 1 Af) args0] (Af v) := by
 refine Ay Ai0 (Nat.le_of_ble_eq_true rfl) ?_
 unfold Ji at h
 refine LoopQ.o [8, 7, 3, 1, 2] (Mg a0 op0 args0) (Tf a0 op0 args0) h (fun s o h => Aen s o h) (by rfl) (fun _ => rfl) ?_
 rintro q6_7 h
 try dsimp only at h
 refine Cells.lit rfl rfl <| Len.map <| Ask.o h fun p7 h => Elem.o (by first | omega | (simp [Ar] at * <;> omega)) <| Len.map <| Ask.o h fun p8 h => Elem.o (by first | omega | (simp [Ar] at * <;> omega)) ?_
 cases h; exact (by rfl)
noncomputable def Gc (s0 : ByteArray) : (Int × SOp) → Option ((Int × SOp) ⊕ SOp) := fun (x4, x3) =>
 if x4 < (↑s0.size : Int) then
 ask ((0 : Int) ≤ x4 ∧ x4 < (↑s0.size : Int)) <|
 ask ((x3.Table).length + ([IntKind.i64.wrap (IntKind.u8.wrap (Agp s0 x4 - (48 : Int)))]).length ≤ LIM) <|
 ask (InI (x4 + (1 : Int))) <|
 some (.inl (x4 + (1 : Int), { Arity := x3.Arity, Table := x3.Table ++ [IntKind.i64.wrap (IntKind.u8.wrap (Agp s0 x4 - (48 : Int)))] }))
 else
 some (.inr x3)
def K6 (s0 : ByteArray) : (Int × SOp) → St := fun s => [(4, A.val (Af s.1)), (3, A.val ((rP true (Bd true)) s.2)), (2, A.val ((rP true (Bd true)) ({ Arity := (0 : Int), Table := Aq Int }))), (0, A.val (V.str (s0)))]
def Rt (_s0 : ByteArray) : SOp → Tgt
 | s => ((Ex.exit 0), [3, 2], [(3, A.val ((rP true (Bd true)) s)), (2, A.val ((rP true (Bd true)) ({ Arity := (0 : Int), Table := Aq Int })))])
theorem Acn {s0 : ByteArray} (s : (Int × SOp)) (o : (Int × SOp) ⊕ SOp) (h : Gc s0 s = some o) : vc Tryz.prog Qt (Da [4, 3, 2, 0] (K6 s0) (Rt s0) o) (K6 s0 s) := by
 obtain ⟨x4, x3⟩ := s
 unfold Gc at h
 try dsimp only at h
 refine Br.od h (fun p1 h => ?_) (fun p1 h => ?_)
 ·refine Cells.lit rfl rfl <| Ask.o h fun p2 h => BslQ.o Af ([IntKind.i64.wrap (IntKind.u8.wrap (Agp s0 x4 - (48 : Int)))]) (by exact fun _ => ⟨rfl, rfl⟩) (by rfl) <| NoOwn.o (fun _ => rfl) <| Kid.lit rfl rfl <| Kid.lit rfl rfl <| SetKids.lit rfl <| AppQ.o (m := 1) Af (by exact fun _ => ⟨rfl, rfl⟩) (x3.Table) ([IntKind.i64.wrap (IntKind.u8.wrap (Agp s0 x4 - (48 : Int)))]) (by rfl) (by rfl) h fun h => SetKids.lit rfl <| Ask.o h fun p3 h => ?_
  cases h; exact ⟨rfl, rfl⟩
 cases h; exact ⟨rfl, rfl⟩
noncomputable def A7 (s0 : ByteArray) : Option SOp :=
 (Al (Gc s0) ((0 : Int), { Arity := (2 : Int), Table := Aq Int })).bind fun q4_3 =>
 some q4_3
theorem Bl {s0 : ByteArray} {v : SOp} (h : A7 s0 = some v) : Ret Tryz.prog Be [V.str s0] ((Bd true) v) := by
 refine Ay Ahs (Nat.le_of_ble_eq_true rfl) ?_
 unfold A7 at h
 refine SetKids.lit rfl <| LoopQ.o [4, 3, 2, 0] (K6 s0) (Rt s0) h (fun s o h => Acn s o h) (by rfl) (fun _ => rfl) ?_
 rintro q4_3 h
 try dsimp only at h
 refine Cells.lit rfl rfl <| SetKids.lit rfl ?_
 cases h; exact (by rfl)
noncomputable def Ga (n0 : Int) : (Int × SOp) → Option ((Int × SOp) ⊕ SOp) := fun (x4, x3) =>
 ask (InI (n0 * n0)) <|
 ask (InI (n0 * n0 * n0)) <|
 if x4 < n0 * n0 * n0 then
 ask (InI (n0 * n0)) <|
 ask (n0 * n0 ≠ (0 : Int) ∧ InI (x4.tdiv (n0 * n0))) <|
 ask (InI (x4.tdiv (n0 * n0) + n0)) <|
 ask (n0 ≠ (0 : Int) ∧ InI (x4.tdiv n0)) <|
 ask (n0 ≠ (0 : Int)) <|
 ask (InI (x4.tdiv (n0 * n0) + n0 - (x4.tdiv n0).tmod n0)) <|
 ask (n0 ≠ (0 : Int)) <|
 ask (InI (x4.tdiv (n0 * n0) + n0 - (x4.tdiv n0).tmod n0 + x4.tmod n0)) <|
 ask (n0 ≠ (0 : Int)) <|
 ask ((x3.Table).length + ([(x4.tdiv (n0 * n0) + n0 - (x4.tdiv n0).tmod n0 + x4.tmod n0).tmod n0]).length ≤ LIM) <|
 ask (InI (x4 + (1 : Int))) <|
 some (.inl (x4 + (1 : Int), { Arity := x3.Arity, Table := x3.Table ++ [(x4.tdiv (n0 * n0) + n0 - (x4.tdiv n0).tmod n0 + x4.tmod n0).tmod n0] }))
 else
 some (.inr x3)
def K5 (n0 : Int) : (Int × SOp) → St := fun s => [(4, A.val (Af s.1)), (3, A.val ((rP true (Bd true)) s.2)), (2, A.val ((rP true (Bd true)) ({ Arity := (0 : Int), Table := Aq Int }))), (0, A.val (Af (n0)))]
def Rp (_n0 : Int) : SOp → Tgt
 | s => ((Ex.exit 0), [3, 2], [(3, A.val ((rP true (Bd true)) s)), (2, A.val ((rP true (Bd true)) ({ Arity := (0 : Int), Table := Aq Int })))])
theorem Ab2 {n0 : Int} (s : (Int × SOp)) (o : (Int × SOp) ⊕ SOp) (h : Ga n0 s = some o) : vc Tryz.prog Rr (Da [4, 3, 2, 0] (K5 n0) (Rp n0) o) (K5 n0 s) := by
 obtain ⟨x4, x3⟩ := s
 unfold Ga at h
 try dsimp only at h
 refine Ask.o h fun p1 h => Ask.o h fun p2 h => Br.od h (fun p3 h => ?_) (fun p3 h => ?_)
 ·refine Cells.lit rfl rfl <| Ask.o h fun p4 h => Ask.o h fun p5 h => Ask.o h fun p6 h => Ask.o h fun p7 h => Ask.o h fun p8 h => Ask.o h fun p9 h => Ask.o h fun p10 h => Ask.o h fun p11 h => Ask.o h fun p12 h => BslQ.o Af ([(x4.tdiv (n0 * n0) + n0 - (x4.tdiv n0).tmod n0 + x4.tmod n0).tmod n0]) (by exact fun _ => ⟨rfl, rfl⟩) (by rfl) <| NoOwn.o (fun _ => rfl) <| Kid.lit rfl rfl <| Kid.lit rfl rfl <| SetKids.lit rfl <| AppQ.o (m := 1) Af (by exact fun _ => ⟨rfl, rfl⟩) (x3.Table) ([(x4.tdiv (n0 * n0) + n0 - (x4.tdiv n0).tmod n0 + x4.tmod n0).tmod n0]) (by rfl) (by rfl) h fun h => SetKids.lit rfl <| Ask.o h fun p13 h => ?_
  cases h; exact ⟨rfl, rfl⟩
 cases h; exact ⟨rfl, rfl⟩
noncomputable def Gu (n0 : Int) : Option SOp :=
 (Al (Ga n0) ((0 : Int), { Arity := (3 : Int), Table := Aq Int })).bind fun q14_3 =>
 some q14_3
theorem Xj {n0 : Int} {v : SOp} (h : Gu n0 = some v) : Ret Tryz.prog K2 [Af n0] ((Bd true) v) := by
 refine Ay Ahr (Nat.le_of_ble_eq_true rfl) ?_
 unfold Gu at h
 refine SetKids.lit rfl <| LoopQ.o [4, 3, 2, 0] (K5 n0) (Rp n0) h (fun s o h => Ab2 s o h) (by rfl) (fun _ => rfl) ?_
 rintro q14_3 h
 try dsimp only at h
 refine Cells.lit rfl rfl <| SetKids.lit rfl ?_
 cases h; exact (by rfl)
noncomputable def Fh (n0 : Int) : (Int × Int) → Option ((Int × Int) ⊕ Int) := fun (x5, x1) =>
 if x1 > (0 : Int) then
 ask (InI (x5 * n0)) <|
 ask (InI (x1 - (1 : Int))) <|
 some (.inl (x5 * n0, x1 - (1 : Int)))
 else
 some (.inr x5)
def Px (n0 : Int) : (Int × Int) → St := fun s => [(5, A.val (Af s.1)), (0, A.val (Af (n0))), (1, A.val (Af s.2))]
def Xa (_n0 : Int) : Int → Tgt
 | s => ((Ex.exit 0), [5], [(5, A.val (Af s))])
theorem Ag3 {n0 : Int} (s : (Int × Int)) (o : (Int × Int) ⊕ Int) (h : Fh n0 s = some o) : vc Tryz.prog Xl (Da [5, 0, 1] (Px n0) (Xa n0) o) (Px n0 s) := by
 obtain ⟨x5, x1⟩ := s
 unfold Fh at h
 try dsimp only at h
 refine Br.od h (fun p1 h => ?_) (fun p1 h => ?_)
 ·refine Ask.o h fun p2 h => Ask.o h fun p3 h => ?_
  cases h; exact ⟨rfl, rfl⟩
 cases h; exact ⟨rfl, rfl⟩
noncomputable def Jx (n0 : Int) (k0 : Int) : Option Int :=
 (Al (Fh n0) ((1 : Int), k0)).bind fun q4_5 =>
 some q4_5
theorem An7 {n0 : Int} {k0 : Int} {v : Int} (h : Jx n0 k0 = some v) : Ret Tryz.prog Wn [Af n0, Af k0] (Af v) := by
 refine Ay Ao2 (Nat.le_of_ble_eq_true rfl) ?_
 unfold Jx at h
 refine LoopQ.o [5, 0, 1] (Px n0) (Xa n0) h (fun s o h => Ag3 s o h) (by rfl) (fun _ => rfl) ?_
 rintro q4_5 h
 try dsimp only at h
 cases h; exact (by rfl)
noncomputable def Dw (p0 : List Int) : (Int × Int) → Option ((Int × Int) ⊕ Int) := fun (x8, x3) =>
 if x8 < (↑p0.length : Int) then
 ask ((0 : Int) ≤ x8 ∧ x8 < (↑p0.length : Int)) <|
 if nth p0 x8.toNat = x8 then
 ask (InI (x3 + (1 : Int))) <|
 ask (InI (x8 + (1 : Int))) <|
 some (.inl (x8 + (1 : Int), x3 + (1 : Int)))
 else
 ask (InI (x8 + (1 : Int))) <|
 some (.inl (x8 + (1 : Int), x3))
 else
 some (.inr x3)
def Jn (p0 : List Int) : (Int × Int) → St := fun s => [(8, A.val (Af s.1)), (7, A.val (Af ((↑p0.length : Int)))), (6, A.val ((slr false 1 Af) (p0))), (3, A.val (Af s.2))]
def O3 (_p0 : List Int) : Int → Tgt
 | s => ((Ex.exit 0), [3], [(3, A.val (Af s))])
theorem Zb {p0 : List Int} (s : (Int × Int)) (o : (Int × Int) ⊕ Int) (h : Dw p0 s = some o) : vc Tryz.prog O4 (Da [8, 7, 6, 3] (Jn p0) (O3 p0) o) (Jn p0 s) := by
 obtain ⟨x8, x3⟩ := s
 unfold Dw at h
 try dsimp only at h
 refine Br.od h (fun p1 h => ?_) (fun p1 h => ?_)
 ·refine Len.map <| Ask.o h fun p2 h => Elem.o (by first | omega | (simp [Ar] at * <;> omega)) <| Br.oe h (fun p3 h => ?_) (fun p3 h => ?_)
  ·refine Ask.o h fun p4 h => Ask.o h fun p5 h => ?_
   cases h; exact ⟨rfl, rfl⟩
  refine Ask.o h fun p6 h => ?_
  cases h; exact ⟨rfl, rfl⟩
 cases h; exact ⟨rfl, rfl⟩
noncomputable def Fc (p0 : (List Int)) : Option Int :=
 (Al (Dw p0) ((0 : Int), (0 : Int))).bind fun q7_3 =>
 some q7_3
theorem Su {p0 : (List Int)} {v : Int} (h : Fc p0 = some v) : Ret Tryz.prog I5 [(slr false 1 Af) p0] (Af v) := by
 refine Ay Ael (Nat.le_of_ble_eq_true rfl) ?_
 unfold Fc at h
 refine Len.map <| LoopQ.o [8, 7, 6, 3] (Jn p0) (O3 p0) h (fun s o h => Zb s o h) (by rfl) (fun _ => rfl) ?_
 rintro q7_3 h
 try dsimp only at h
 cases h; exact (by rfl)
noncomputable def B9 (s0 : List Int) (t0 : List Int) : Int → Option (Int ⊕ (Int ⊕ Unit)) := fun x5 =>
 ((if x5 < (↑s0.length : Int) then
 if x5 < (↑t0.length : Int) then
 some (.inl ())
 else
 some (.inr ())
 else
 some (.inr ()) : Option (Unit ⊕ Unit))).bind fun t => match t with
 | (.inl _) => (ask ((0 : Int) ≤ x5 ∧ x5 < (↑s0.length : Int)) <|
 ask ((0 : Int) ≤ x5 ∧ x5 < (↑t0.length : Int)) <|
 if nth s0 x5.toNat ≠ nth t0 x5.toNat then
 ask ((0 : Int) ≤ x5 ∧ x5 < (↑s0.length : Int)) <|
 ask ((0 : Int) ≤ x5 ∧ x5 < (↑t0.length : Int)) <|
 if nth s0 x5.toNat < nth t0 x5.toNat then
 some (.inr (.inl (-1 : Int)))
 else
 some (.inr (.inl (1 : Int)))
 else
 ask (InI (x5 + (1 : Int))) <|
 some (.inl (x5 + (1 : Int))))
 | (.inr _) => (some (.inr (.inr ())))
def H7 (s0 : List Int) (t0 : List Int) : Int → St := fun s => [(5, A.val (Af s)), (0, A.val ((slr false 1 Af) (s0))), (1, A.val ((slr false 1 Af) (t0)))]
def Ma (s0 : List Int) (t0 : List Int) : (Int ⊕ Unit) → Tgt
 | (.inl s) => (Ex.ret, [4], [(4, A.val (Af s))])
 | (.inr _s) => ((Ex.exit 0), [0, 1], [(0, A.val ((slr false 1 Af) (s0))), (1, A.val ((slr false 1 Af) (t0)))])
theorem Wj {s0 : List Int} {t0 : List Int} (x5 : Int) (o : Int ⊕ (Int ⊕ Unit)) (h : B9 s0 t0 x5 = some o) : vc Tryz.prog L9 (Da [5, 0, 1] (H7 s0 t0) (Ma s0 t0) o) (H7 s0 t0 x5) := by
 unfold B9 at h
 try dsimp only at h
 refine CutQ.o (fun t : (Unit ⊕ Unit) => match t with | (.inl s) => (Ex.normal, [5, 0, 1], [(5, A.val (Af (x5))), (0, A.val ((slr false 1 Af) (s0))), (1, A.val ((slr false 1 Af) (t0)))]) | (.inr s) => ((Ex.exit 0), [0, 1], [(0, A.val ((slr false 1 Af) (s0))), (1, A.val ((slr false 1 Af) (t0)))])) h ?_ ?_
 ·intro t h
  refine Len.map <| Br.od h (fun p1 h => ?_) (fun p1 h => ?_)
  ·refine Br.yes <| Br.yes <| Len.map <| Br.yes <| Br.yes <| Br.od h (fun p2 h => ?_) (fun p2 h => ?_)
   ·cases h; exact ⟨rfl, rfl⟩
   cases h; exact ⟨rfl, rfl⟩
  refine Br.no <| Br.no <| Br.no <| Br.no <| Br.no ?_
  cases h; exact ⟨rfl, rfl⟩
 rintro (⟨⟩ | ⟨⟩) h
 ·try dsimp only at h
  refine Len.map <| Ask.o h fun p4 h => Elem.o (by first | omega | (simp [Ar] at * <;> omega)) <| Len.map <| Ask.o h fun p5 h => Elem.o (by first | omega | (simp [Ar] at * <;> omega)) <| Br.on h (fun p6 h => ?_) (fun p6 h => ?_)
  ·refine Len.map <| Ask.o h fun p7 h => Elem.o (by first | omega | (simp [Ar] at * <;> omega)) <| Len.map <| Ask.o h fun p8 h => Elem.o (by first | omega | (simp [Ar] at * <;> omega)) <| Br.od h (fun p9 h => ?_) (fun p9 h => ?_)
   ·cases h; exact ⟨rfl, rfl⟩
   cases h; exact ⟨rfl, rfl⟩
  refine Ask.o h fun p10 h => ?_
  cases h; exact ⟨rfl, rfl⟩
 try dsimp only at h
 cases h; exact ⟨rfl, rfl⟩
noncomputable def Fs (s0 : (List Int)) (t0 : (List Int)) : Option Int :=
 (Al (B9 s0 t0) (0 : Int)).bind fun t => match t with
 | (.inl q11_4) => (some q11_4)
 | (.inr _) => (if (↑s0.length : Int) < (↑t0.length : Int) then
 some (-1 : Int)
 else
 if (↑s0.length : Int) > (↑t0.length : Int) then
 some (1 : Int)
 else
 some (0 : Int))
theorem Aag {s0 : (List Int)} {t0 : (List Int)} {v : Int} (h : Fs s0 t0 = some v) : Ret Tryz.prog J5 [(slr false 1 Af) s0, (slr false 1 Af) t0] (Af v) := by
 refine Ay Aaq (Nat.le_of_ble_eq_true rfl) ?_
 unfold Fs at h
 refine LoopQ.o [5, 0, 1] (H7 s0 t0) (Ma s0 t0) h (fun s o h => Wj s o h) (by rfl) (by rintro (_ | _) <;> rfl) ?_
 rintro (q11_4 | ⟨⟩) h
 ·try dsimp only at h
  cases h; exact (by rfl)
 try dsimp only at h
 refine Len.map <| Len.map <| Br.od h (fun p12 h => ?_) (fun p12 h => ?_)
 ·cases h; exact (by rfl)
 refine Len.map <| Len.map <| Br.od h (fun p13 h => ?_) (fun p13 h => ?_)
 ·cases h; exact (by rfl)
 cases h; exact (by rfl)
noncomputable def Fe (p0 : List Int) : (Int × Int) → Option ((Int × Int) ⊕ Int) := fun (x4, x3) =>
 if x4 < (↑p0.length : Int) then
 ask ((0 : Int) ≤ x4 ∧ x4 < (↑p0.length : Int)) <|
 if nth p0 x4.toNat = x4 then
 ask (InI (x3 + (1 : Int))) <|
 ask (InI (x4 + (1 : Int))) <|
 some (.inl (x4 + (1 : Int), x3 + (1 : Int)))
 else
 ask (InI (x4 + (1 : Int))) <|
 some (.inl (x4 + (1 : Int), x3))
 else
 some (.inr x3)
def L0 (p0 : List Int) : (Int × Int) → St := fun s => [(4, A.val (Af s.1)), (3, A.val (Af s.2)), (0, A.val ((slr false 1 Af) (p0)))]
def Sn (_p0 : List Int) : Int → Tgt
 | s => ((Ex.exit 0), [3], [(3, A.val (Af s))])
theorem Ac0 {p0 : List Int} (s : (Int × Int)) (o : (Int × Int) ⊕ Int) (h : Fe p0 s = some o) : vc Tryz.prog Sz (Da [4, 3, 0] (L0 p0) (Sn p0) o) (L0 p0 s) := by
 obtain ⟨x4, x3⟩ := s
 unfold Fe at h
 try dsimp only at h
 refine Len.map <| Br.od h (fun p1 h => ?_) (fun p1 h => ?_)
 ·refine Len.map <| Ask.o h fun p2 h => Elem.o (by first | omega | (simp [Ar] at * <;> omega)) <| Br.oe h (fun p3 h => ?_) (fun p3 h => ?_)
  ·refine Ask.o h fun p4 h => Ask.o h fun p5 h => ?_
   cases h; exact ⟨rfl, rfl⟩
  refine Ask.o h fun p6 h => ?_
  cases h; exact ⟨rfl, rfl⟩
 cases h; exact ⟨rfl, rfl⟩
noncomputable def E5 (p0 : (List Int)) : Option Int :=
 (Al (Fe p0) ((0 : Int), (0 : Int))).bind fun q7_3 =>
 some q7_3
theorem L1 {p0 : (List Int)} {v : Int} (h : E5 p0 = some v) : Ret Tryz.prog H1 [(slr false 1 Af) p0] (Af v) := by
 refine Ay Aj1 (Nat.le_of_ble_eq_true rfl) ?_
 unfold E5 at h
 refine LoopQ.o [4, 3, 0] (L0 p0) (Sn p0) h (fun s o h => Ac0 s o h) (by rfl) (fun _ => rfl) ?_
 rintro q7_3 h
 try dsimp only at h
 cases h; exact (by rfl)
end Go.Proofs.YthagmdhmgailfaaGreat.Ax
