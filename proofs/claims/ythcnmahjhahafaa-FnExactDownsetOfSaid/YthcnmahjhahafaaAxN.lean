/-
  One operation: what it does to a state, when an operation of the program's is such a one, and that then memory follows.
-/
import Derived.Test.YthcnmahjhahafaaAxM
namespace Go.Proofs.Ythcnmahjhahafaa.Ax
open Go

def V.isBool : V → Bool
  | .bool _ => true
  | _ => false

def binN (d : Nat) (op : BinOp) (x y : A) (σ : St) : Option St := match valOf x with
  | some u => if u.isBool then none else binS d op x y σ
  | none => none

def stepA : AOp → St → Option St
  | .mov d x, σ => some (puts d (upA (evalX σ x)) σ)
  | .asg d x, σ => asgS d (evalX σ x) σ
  | .pick d c x y, σ => pickS d (evalX σ c) (evalX σ x) (evalX σ y) σ
  | .bin d op x y, σ => binN d op (evalX σ x) (evalX σ y) σ
  | .binb d op x y, σ => binS d op (evalX σ x) (evalX σ y) σ
  | .un d op x, σ => unS d op (evalX σ x) σ
  | .len d x, σ => lenS d (evalX σ x) σ
  | .slen d x, σ => slenS d (evalX σ x) σ
  | .max d x y, σ => maxS d (evalX σ x) (evalX σ y) σ
  | .ext d x i, σ => extS d (evalX σ x) i σ
  | .iad d m x i, σ => iadS d m (evalX σ x) (evalX σ i) σ
  | .aad d m n x i, σ => aadS d m n (evalX σ x) (evalX σ i) σ
  | .fadr d off x, σ => fadrS d off (evalX σ x) σ
  | .ld d n ag x, σ => ldS d n ag (evalX σ x) σ
  | .st n x v, σ => storeA σ n x v
  | .fld d off n ag x, σ => if aggA σ (evalX σ x) then fldS d off n ag (evalX σ x) σ else none
  | .idx d m n ag x i, σ => if aggA σ (evalX σ x) then idxS d m n ag (evalX σ x) (evalX σ i) σ else none
  | .box d x, σ => boxS d (evalX σ x) σ
  | .alc d z, σ => alcS d z σ
  | .mk d m z x, σ => mkS d m z (evalX σ x) σ
  | .bsl d m ps, σ => bslS d m (ps.map (evalX σ)) σ
  | .bld d z ps, σ => bldS d z ps σ
  | .app d m x y, σ => appS d m x y σ
  | .nck d x, σ => nckS d (evalX σ x) σ
  | .mkf d f cs, σ => some (puts d (cloA f (cs.map (evalX σ))) σ)
  | _, _ => none

def tySlice (P : Program) (t : TypeId) : Option TypeInfo := match P.underlying t with
  | some (.slice e) => P.info? e
  | _ => none

def tyArray (P : Program) (t : TypeId) : Option (Nat × TypeInfo) := match P.underlying t with
  | some (.array n e) => (P.info? e).map (n, ·)
  | _ => none

def tyField (P : Program) (t : TypeId) (i : Nat) : Option (Nat × TypeInfo) := match P.underlying t with
  | some (.struct fs) => match fs[i]? with
    | some f => (P.info? f.type).map (f.offset, ·)
    | none => none
  | _ => none

def tyFieldT (P : Program) (t : TypeId) (i : Nat) : Option (Nat × TypeId) := match P.underlying t with
  | some (.struct fs) => (fs[i]?).map fun f => (f.offset, f.type)
  | _ => none

def zeroIs (i : TypeInfo) (z : V) : Bool := match i.zero with
  | some v => cRd z v
  | none => false

def sameOp (a b : BinOp) : Bool := a == b

def fitsOp (P : Program) (N : Nat) (o : Oper) : AOp → Bool
  | .mov d x => o.dst == some d && decide (d < N) && (match o.op with | .move x' => fitsX N x x' | .assign x' => fitsX N x x' | _ => false)
  | .asg d x => o.dst == some d && decide (d < N) && (match o.op with | .move x' => fitsX N x x' | .assign x' => fitsX N x x' | _ => false)
  | .pick d c x y => o.dst == some d && decide (d < N) && (match o.op with | .pick c' x' y' => fitsX N c c' && fitsX N x x' && fitsX N y y' | _ => false)
  | .bin d op x y => o.dst == some d && decide (d < N) && (match o.op with | .binOp op' _ x' y' _ => op' == op && fitsX N x x' && fitsX N y y' | _ => false)
  | .binb d op x y => o.dst == some d && decide (d < N) && (match o.op with | .binOp op' t x' y' _ => op' == op && fitsX N x x' && fitsX N y y' && (match P.underlying t with | some .bool => true | _ => false) | _ => false)
  | .un d op x => o.dst == some d && decide (d < N) && (match o.op with | .unOp op' _ x' => op' == op && fitsX N x x' | _ => false)
  | .len d x => o.dst == some d && decide (d < N) && (match o.op with
    | .call { callee := .builtin .len, args, argTypes } => (match args.toList, argTypes.toList with | [x'], [t] => fitsX N x x' && (match P.underlying t with | some (.slice _) => true | _ => false) | _, _ => false)
    | _ => false)
  | .slen d x => o.dst == some d && decide (d < N) && (match o.op with
    | .call { callee := .builtin .len, args, argTypes } => (match args.toList, argTypes.toList with | [x'], [t] => fitsX N x x' && (match P.underlying t with | some .string => true | _ => false) | _, _ => false)
    | _ => false)
  | .max d x y => o.dst == some d && decide (d < N) && (match o.op with
    | .call { callee := .builtin .max, args, .. } => (match args.toList with | [x', y'] => fitsX N x x' && fitsX N y y' | _ => false)
    | _ => false)
  | .ext d x i => o.dst == some d && decide (d < N) && (match o.op with | .extract x' i' => fitsX N x x' && i' == i | _ => false)
  | .iad d m x i => o.dst == some d && decide (d < N) && (match o.op with
    | .indexAddr t x' i' => fitsX N x x' && fitsX N i i' && (match tySlice P t with | some fi => fi.size == m | none => false)
    | _ => false)
  | .aad d m n x i => o.dst == some d && decide (d < N) && (match o.op with
    | .indexAddr t x' i' => fitsX N x x' && fitsX N i i' && (match tyArray P t with | some (n', fi) => n' == n && fi.size == m | none => false)
    | _ => false)
  | .fadr d off x => o.dst == some d && decide (d < N) && (match o.op with
    | .fieldAddr t x' i => fitsX N x x' && (match tyField P t i with | some (off', fi) => off' == off && fi.size != 0 | none => false)
    | _ => false)
  | .ld d n ag x => o.dst == some d && decide (d < N) && (match o.op with | .load t x' => fitsX N x x' && fitsTy P t n ag | _ => false)
  | .st n x v => o.dst == none && (match o.op with
    | .store t x' v' => fitsX N x x' && fitsX N v v' && (match P.info? t with | some fi => fi.size == n | none => false)
    | _ => false)
  | .fld d off n ag x => o.dst == some d && decide (d < N) && (match o.op with
    | .field t x' i => fitsX N x x' && (match tyFieldT P t i with | some (off', ft) => off' == off && fitsTy P ft n ag | none => false)
    | _ => false)
  | .idx d m n ag x i => o.dst == some d && decide (d < N) && (match o.op with
    | .index t x' i' => fitsX N x x' && fitsX N i i' && (match P.underlying t with | some (.array n' e) => n' == n && fitsTy P e m ag | _ => false)
    | _ => false)
  | .box d x => o.dst == some d && decide (d < N) && (match o.op with | .box _ x' => fitsX N x x' | _ => false)
  | .alc d z => o.dst == some d && decide (d < N) && (match o.op with | .alloc t => (match P.info? t with | some fi => zeroIs fi z | none => false) | _ => false)
  | .mk d m z x => o.dst == some d && decide (d < N) && (match o.op with
    | .makeSlice t (.tmp x1) (.tmp x2) => x1 == x2 && fitsX N x (.tmp x1) && (match tySlice P t with
      | some fi => fi.size == m && zeroIs fi z && allCell z.cells && decide (z.cells.length = m) && decide (fi.bytes ≤ 1024)
      | none => false)
    | _ => false)
  | .bsl d m ps => o.dst == some d && decide (d < N) && (match o.op with
    | .buildSlice t n parts => parts.toList.map (·.1) == List.range n && fitsXs N ps (parts.toList.map (·.2)) && (match tySlice P t with
      | some fi => fi.size == m && fi.zero.isSome && decide (0 < m) && decide (n * m ≤ 16777216)
      | none => false)
    | _ => false)
  | .bld d z ps => o.dst == some d && decide (d < N) && (match o.op with
    | .build t parts => (match placesOf P t, P.info? t with
      | some place, some fi => fitsPs N place ps parts.toList && (match fi.zero with | some zv => cRdL z zv.cells.toList | none => false)
      | _, _ => false)
    | _ => false)
  | .app d m x y => o.dst == some d && decide (d < N) && (match o.op with
    | .call { callee := .builtin .append, args, argTypes } => (match args.toList, argTypes.toList with
      | [x', y'], [t, t'] => t == t' && fitsX N x x' && fitsX N y y' && (match tySlice P t with
        | some fi => fi.size == m && (match fi.zero with | some z => z.cells.size == m | none => false) && decide (fi.bytes ≤ 1024)
        | none => false)
      | _, _ => false)
    | _ => false)
  | .nck d x => o.dst == some d && decide (d < N) && (match o.op with | .nilCheck x' => fitsX N x x' | _ => false)
  | .mkf d f cs => o.dst == some d && decide (d < N) && (match o.op with | .makeFunc (.func f') first cs' => f' == f && first.isEmpty && fitsXs N cs cs'.toList | _ => false)
  | _ => false

theorem tySlice_spec {P t fi} (h : tySlice P t = some fi) : ∃ e, P.underlying t = some (.slice e) ∧ P.info? e = some fi := by
  unfold tySlice at h
  split at h
  · exact ⟨_, by assumption, h⟩
  · cases h

theorem toList_eq_one {α : Type} {a : Array α} {x : α} (h : a.toList = [x]) : a = #[x] := by
  apply Array.toList_inj.1; simpa using h
theorem toList_eq_two {α : Type} {a : Array α} {x y : α} (h : a.toList = [x, y]) : a = #[x, y] := by
  apply Array.toList_inj.1; simpa using h

theorem step_sound {P : Program} {o : Oper} {ao : AOp} {σ σ' a w O gv N vals fp} (hf : fitsOp P N o ao = true) (h : Ok σ a w O gv N vals fp) (hs : stepA ao σ = some σ') :
    StepOk P o σ' a w O gv N fp := by
  cases ao with
  | mov d x =>
    simp only [fitsOp, Bool.and_eq_true, beq_iff_eq, decide_eq_true_eq] at hf
    obtain ⟨⟨hd, hN⟩, hf⟩ := hf
    simp only [stepA, Option.some.injEq] at hs; subst hs
    split at hf
    · exact mov_ok h (.inl (by assumption)) hd hN hf
    · exact mov_ok h (.inr (by assumption)) hd hN hf
    · cases hf
  | asg d x =>
    simp only [fitsOp, Bool.and_eq_true, beq_iff_eq, decide_eq_true_eq] at hf
    obtain ⟨⟨hd, hN⟩, hf⟩ := hf
    split at hf
    · exact asg_ok h (.inl (by assumption)) hd hN hf hs
    · exact asg_ok h (.inr (by assumption)) hd hN hf hs
    · cases hf
  | pick d c x y =>
    simp only [fitsOp, Bool.and_eq_true, beq_iff_eq, decide_eq_true_eq] at hf
    obtain ⟨⟨hd, hN⟩, hf⟩ := hf
    split at hf
    case h_2 => cases hf
    simp only [Bool.and_eq_true] at hf
    exact pick_ok h (by assumption) hd hN hf.1.1 hf.1.2 hf.2 hs
  | bin d op x y =>
    simp only [fitsOp, Bool.and_eq_true, beq_iff_eq, decide_eq_true_eq] at hf
    obtain ⟨⟨hd, hN⟩, hf⟩ := hf
    split at hf
    case h_2 => cases hf
    rename_i op' t x' y' yt ho
    simp only [Bool.and_eq_true, beq_iff_eq] at hf
    obtain ⟨⟨rfl, hx⟩, hy⟩ := hf
    simp only [stepA, binN] at hs
    split at hs
    case h_2 => cases hs
    rename_i u hu
    split at hs
    · cases hs
    · rename_i hb
      exact bin_ok h ho hd hN hx hy (by intro u' b h1 h2; rw [hu] at h1; cases h1; subst h2; exact absurd rfl hb) hs
  | binb d op x y =>
    simp only [fitsOp, Bool.and_eq_true, beq_iff_eq, decide_eq_true_eq] at hf
    obtain ⟨⟨hd, hN⟩, hf⟩ := hf
    split at hf
    case h_2 => cases hf
    rename_i op' t x' y' yt ho
    simp only [Bool.and_eq_true, beq_iff_eq] at hf
    obtain ⟨⟨⟨rfl, hx⟩, hy⟩, ht⟩ := hf
    split at ht
    case h_2 => cases ht
    exact bin_ok h ho hd hN hx hy (by intros; assumption) hs
  | un d op x =>
    simp only [fitsOp, Bool.and_eq_true, beq_iff_eq, decide_eq_true_eq] at hf
    obtain ⟨⟨hd, hN⟩, hf⟩ := hf
    split at hf
    case h_2 => cases hf
    simp only [Bool.and_eq_true, beq_iff_eq] at hf
    obtain ⟨rfl, hx⟩ := hf
    exact un_ok h (by assumption) hd hN hx hs
  | len d x =>
    simp only [fitsOp, Bool.and_eq_true, beq_iff_eq, decide_eq_true_eq] at hf
    obtain ⟨⟨hd, hN⟩, hf⟩ := hf
    split at hf
    case h_2 => cases hf
    rename_i args ats ho
    split at hf
    case h_2 => cases hf
    rename_i x' t h1 h2
    simp only [Bool.and_eq_true] at hf
    obtain ⟨hx, ht⟩ := hf
    split at ht
    case h_2 => cases ht
    rw [toList_eq_one h1, toList_eq_one h2] at ho
    exact len_ok h ho hd hN hx (by assumption) hs
  | slen d x =>
    simp only [fitsOp, Bool.and_eq_true, beq_iff_eq, decide_eq_true_eq] at hf
    obtain ⟨⟨hd, hN⟩, hf⟩ := hf
    split at hf
    case h_2 => cases hf
    rename_i args ats ho
    split at hf
    case h_2 => cases hf
    rename_i x' t h1 h2
    simp only [Bool.and_eq_true] at hf
    obtain ⟨hx, ht⟩ := hf
    split at ht
    case h_2 => cases ht
    rw [toList_eq_one h1, toList_eq_one h2] at ho
    exact slen_ok h ho hd hN hx (by assumption) hs
  | max d x y =>
    simp only [fitsOp, Bool.and_eq_true, beq_iff_eq, decide_eq_true_eq] at hf
    obtain ⟨⟨hd, hN⟩, hf⟩ := hf
    split at hf
    case h_2 => cases hf
    rename_i args ats ho
    split at hf
    case h_2 => cases hf
    rename_i x' y' h1
    simp only [Bool.and_eq_true] at hf
    rw [toList_eq_two h1] at ho
    exact max_ok h ho hd hN hf.1 hf.2 hs
  | ext d x i =>
    simp only [fitsOp, Bool.and_eq_true, beq_iff_eq, decide_eq_true_eq] at hf
    obtain ⟨⟨hd, hN⟩, hf⟩ := hf
    split at hf
    case h_2 => cases hf
    simp only [Bool.and_eq_true, beq_iff_eq] at hf
    obtain ⟨hx, rfl⟩ := hf
    exact ext_ok h (by assumption) hd hN hx hs
  | iad d m x i =>
    simp only [fitsOp, Bool.and_eq_true, beq_iff_eq, decide_eq_true_eq] at hf
    obtain ⟨⟨hd, hN⟩, hf⟩ := hf
    split at hf
    case h_2 => cases hf
    simp only [Bool.and_eq_true] at hf
    obtain ⟨⟨hx, hi⟩, ht⟩ := hf
    split at ht
    case h_2 => cases ht
    rename_i fi hts
    obtain ⟨e, h1, h2⟩ := tySlice_spec hts
    exact iad_ok h (by assumption) hd hN hx hi h1 h2 (by simpa using ht) hs
  | aad d m n x i =>
    simp only [fitsOp, Bool.and_eq_true, beq_iff_eq, decide_eq_true_eq] at hf
    obtain ⟨⟨hd, hN⟩, hf⟩ := hf
    split at hf
    case h_2 => cases hf
    simp only [Bool.and_eq_true] at hf
    obtain ⟨⟨hx, hi⟩, ht⟩ := hf
    split at ht
    case h_2 => cases ht
    rename_i n' fi hts
    simp only [Bool.and_eq_true, beq_iff_eq] at ht
    obtain ⟨rfl, rfl⟩ := ht
    unfold tyArray at hts
    split at hts
    case h_2 => cases hts
    rename_i n2 e hu
    obtain ⟨fi', h1, h2⟩ := Option.map_eq_some_iff.1 hts
    cases h2
    exact aad_ok h (by assumption) hd hN hx hi hu h1 rfl hs
  | fadr d off x =>
    simp only [fitsOp, Bool.and_eq_true, beq_iff_eq, decide_eq_true_eq] at hf
    obtain ⟨⟨hd, hN⟩, hf⟩ := hf
    split at hf
    case h_2 => cases hf
    simp only [Bool.and_eq_true] at hf
    obtain ⟨hx, ht⟩ := hf
    split at ht
    case h_2 => cases ht
    rename_i off' fi hts
    simp only [Bool.and_eq_true, beq_iff_eq, bne_iff_ne] at ht
    obtain ⟨rfl, hz⟩ := ht
    unfold tyField at hts
    split at hts
    case h_2 => cases hts
    rename_i fs hu
    split at hts
    case h_2 => cases hts
    rename_i f hfi
    obtain ⟨fi', h1, h2⟩ := Option.map_eq_some_iff.1 hts
    cases h2
    exact fadr_ok h (by assumption) hd hN hx hu hfi rfl h1 hz hs
  | ld d n ag x =>
    simp only [fitsOp, Bool.and_eq_true, beq_iff_eq, decide_eq_true_eq] at hf
    obtain ⟨⟨hd, hN⟩, hf⟩ := hf
    split at hf
    case h_2 => cases hf
    simp only [Bool.and_eq_true] at hf
    exact ld_ok h (by assumption) hd hN hf.1 hf.2 hs
  | st n x v =>
    simp only [fitsOp, Bool.and_eq_true, beq_iff_eq] at hf
    obtain ⟨hd, hf⟩ := hf
    split at hf
    case h_2 => cases hf
    simp only [Bool.and_eq_true] at hf
    obtain ⟨⟨hx, hv⟩, ht⟩ := hf
    split at ht
    case h_2 => cases ht
    exact store_ok h (by assumption) hd hx hv (by assumption) (by simpa using ht) hs
  | fld d off n ag x =>
    simp only [fitsOp, Bool.and_eq_true, beq_iff_eq, decide_eq_true_eq] at hf
    obtain ⟨⟨hd, hN⟩, hf⟩ := hf
    split at hf
    case h_2 => cases hf
    simp only [Bool.and_eq_true] at hf
    obtain ⟨hx, ht⟩ := hf
    split at ht
    case h_2 => cases ht
    rename_i off' ft hts
    simp only [Bool.and_eq_true, beq_iff_eq] at ht
    obtain ⟨rfl, hty⟩ := ht
    unfold tyFieldT at hts
    split at hts
    case h_2 => cases hts
    rename_i fs hu
    obtain ⟨f, h1, h2⟩ := Option.map_eq_some_iff.1 hts
    cases h2
    simp only [stepA] at hs
    split at hs
    case isFalse => cases hs
    exact fld_ok h (by assumption) hd hN hx hu h1 rfl hty (by assumption) hs
  | idx d m n ag x i =>
    simp only [fitsOp, Bool.and_eq_true, beq_iff_eq, decide_eq_true_eq] at hf
    obtain ⟨⟨hd, hN⟩, hf⟩ := hf
    split at hf
    case h_2 => cases hf
    simp only [Bool.and_eq_true] at hf
    obtain ⟨⟨hx, hi⟩, ht⟩ := hf
    split at ht
    case h_2 => cases ht
    simp only [Bool.and_eq_true, beq_iff_eq] at ht
    obtain ⟨rfl, hty⟩ := ht
    simp only [stepA] at hs
    split at hs
    case isFalse => cases hs
    exact idx_ok h (by assumption) hd hN hx hi (by assumption) hty (by assumption) hs
  | box d x =>
    simp only [fitsOp, Bool.and_eq_true, beq_iff_eq, decide_eq_true_eq] at hf
    obtain ⟨⟨hd, hN⟩, hf⟩ := hf
    split at hf
    case h_2 => cases hf
    exact box_ok h (by assumption) hd hN hf hs
  | alc d z =>
    simp only [fitsOp, Bool.and_eq_true, beq_iff_eq, decide_eq_true_eq] at hf
    obtain ⟨⟨hd, hN⟩, hf⟩ := hf
    split at hf
    case h_2 => cases hf
    split at hf
    case h_2 => cases hf
    unfold zeroIs at hf
    split at hf
    case h_2 => cases hf
    exact alc_ok h (by assumption) hd hN (by assumption) (by assumption) hf hs
  | mk d m z x =>
    simp only [fitsOp, Bool.and_eq_true, beq_iff_eq, decide_eq_true_eq] at hf
    obtain ⟨⟨hd, hN⟩, hf⟩ := hf
    split at hf
    case h_2 => cases hf
    rename_i t x1 x2 ho
    simp only [Bool.and_eq_true, beq_iff_eq] at hf
    obtain ⟨⟨rfl, hx⟩, ht⟩ := hf
    split at ht
    case h_2 => cases ht
    rename_i fi hts
    simp only [Bool.and_eq_true, beq_iff_eq, decide_eq_true_eq] at ht
    obtain ⟨⟨⟨⟨h1, h2⟩, h3⟩, h4⟩, h5⟩ := ht
    obtain ⟨e, g1, g2⟩ := tySlice_spec hts
    unfold zeroIs at h2
    split at h2
    case h_2 => cases h2
    exact mk_ok h ho hd hN hx g1 g2 h1 (by assumption) h2 h3 h4 h5 hs
  | bsl d m ps =>
    simp only [fitsOp, Bool.and_eq_true, beq_iff_eq, decide_eq_true_eq] at hf
    obtain ⟨⟨hd, hN⟩, hf⟩ := hf
    split at hf
    case h_2 => cases hf
    rename_i t n parts ho
    simp only [Bool.and_eq_true, beq_iff_eq] at hf
    obtain ⟨⟨h1, h2⟩, ht⟩ := hf
    split at ht
    case h_2 => cases ht
    rename_i fi hts
    simp only [Bool.and_eq_true, beq_iff_eq, decide_eq_true_eq] at ht
    obtain ⟨⟨⟨g1, g2⟩, g3⟩, g4⟩ := ht
    obtain ⟨e, k1, k2⟩ := tySlice_spec hts
    obtain ⟨z, hz⟩ := Option.isSome_iff_exists.1 g2
    exact bsl_ok h ho hd hN h1 h2 k1 k2 g1 hz g3 g4 hs
  | bld d z ps =>
    simp only [fitsOp, Bool.and_eq_true, beq_iff_eq, decide_eq_true_eq] at hf
    obtain ⟨⟨hd, hN⟩, hf⟩ := hf
    split at hf
    case h_2 => cases hf
    rename_i t parts ho
    split at hf
    case h_2 => cases hf
    rename_i place fi hp hfi
    simp only [Bool.and_eq_true] at hf
    obtain ⟨h1, h2⟩ := hf
    split at h2
    case h_2 => cases h2
    exact bld_ok h ho hd hN hp h1 hfi (by assumption) h2 hs
  | app d m x y =>
    simp only [fitsOp, Bool.and_eq_true, beq_iff_eq, decide_eq_true_eq] at hf
    obtain ⟨⟨hd, hN⟩, hf⟩ := hf
    split at hf
    case h_2 => cases hf
    rename_i args ats ho
    split at hf
    case h_2 => cases hf
    rename_i x' y' t t' h1 h2
    simp only [Bool.and_eq_true, beq_iff_eq] at hf
    obtain ⟨⟨⟨rfl, hx⟩, hy⟩, ht⟩ := hf
    split at ht
    case h_2 => cases ht
    rename_i fi hts
    simp only [Bool.and_eq_true, beq_iff_eq, decide_eq_true_eq] at ht
    obtain ⟨⟨g1, g2⟩, g3⟩ := ht
    split at g2
    case h_2 => cases g2
    obtain ⟨e, k1, k2⟩ := tySlice_spec hts
    rw [toList_eq_two h1, toList_eq_two h2] at ho
    exact app_ok h ho hd hN hx hy k1 k2 g1 (by assumption) (by simpa using g2) g3 hs
  | nck d x =>
    simp only [fitsOp, Bool.and_eq_true, beq_iff_eq, decide_eq_true_eq] at hf
    obtain ⟨⟨hd, hN⟩, hf⟩ := hf
    split at hf
    case h_2 => cases hf
    exact nck_ok h (by assumption) hd hN hf hs
  | mkf d f cs =>
    simp only [fitsOp, Bool.and_eq_true, beq_iff_eq, decide_eq_true_eq] at hf
    obtain ⟨⟨hd, hN⟩, hf⟩ := hf
    split at hf
    case h_2 => cases hf
    rename_i f' first cs' ho
    simp only [Bool.and_eq_true, beq_iff_eq] at hf
    obtain ⟨⟨rfl, he⟩, hx⟩ := hf
    have : first = #[] := by simpa using he
    subst this
    simp only [stepA, Option.some.injEq] at hs; subst hs
    exact mkf_ok h ho hd hN hx
  | slc d m x lo hi => simp [fitsOp] at hf
  | call d f as => simp [fitsOp] at hf
  | cally d x as => simp [fitsOp] at hf

end Go.Proofs.Ythcnmahjhahafaa.Ax
