/-
  Pure trees for Go's data, and what it means that memory reads as such a tree. Nothing of a program is named here.
-/
import Derived.Calls
import Derived.Orders
import Derived.Below
namespace Go.Proofs.Ythcnmahjhahafaa.Ax
open Go

inductive V where
  | int (k : IntKind) (n : Int)
  | bool (b : Bool)
  | str (s : ByteArray)
  | sl (own : Bool) (m : Nat) (xs : List V)
  | ptr (own : Bool) (x : V)
  | nilp
  | nilsl (m : Nat)
  | agg (cs : List V)
  | tup (vs : List V)
  | clo (f : Nat) (caps : List V)
  | fclo (f : Nat) (caps : List V)
  | dead

instance : Inhabited V := ⟨.dead⟩

def V.cells : V → List V
  | .agg cs => cs
  | v => [v]

def V.isCell : V → Bool
  | .agg _ => false
  | .tup _ => false
  | .dead => false
  | _ => true

def V.isAgg : V → Bool
  | .agg _ => true
  | _ => false

def flat : List V → List V
  | [] => []
  | x :: r => x.cells ++ flat r

mutual
def V.hasOwn : V → Bool
  | .sl o _ _ => o
  | .ptr o _ => o
  | .agg cs => anyOwn cs
  | .tup cs => anyOwn cs
  | .clo _ cs => anyOwn cs
  | .fclo _ _ => false
  | .int _ _ => false
  | .bool _ => false
  | .str _ => false
  | .nilp => false
  | .nilsl _ => false
  | .dead => false
def anyOwn : List V → Bool
  | [] => false
  | v :: r => v.hasOwn || anyOwn r
end

mutual
def V.fz : V → V
  | .sl o m xs => match o with
    | true => .sl false m (fzL xs)
    | false => .sl false m xs
  | .ptr o x => match o with
    | true => .ptr false x.fz
    | false => .ptr false x
  | .agg cs => .agg (fzL cs)
  | .tup cs => .tup (fzL cs)
  | .clo f cs => .fclo f cs
  | .fclo f cs => .fclo f cs
  | .int k n => .int k n
  | .bool b => .bool b
  | .str s => .str s
  | .nilp => .nilp
  | .nilsl m => .sl false m []
  | .dead => .dead
def fzL : List V → List V
  | [] => []
  | v :: r => v.fz :: fzL r
end

mutual
theorem fz_noOwn : (x : V) → x.fz.hasOwn = false
  | .sl o m xs => by cases o <;> rfl
  | .ptr o x => by cases o <;> rfl
  | .agg cs => by simp only [V.fz, V.hasOwn]; exact fzL_noOwn cs
  | .tup cs => by simp only [V.fz, V.hasOwn]; exact fzL_noOwn cs
  | .clo _ _ => rfl
  | .fclo _ _ => rfl
  | .int _ _ => rfl
  | .bool _ => rfl
  | .str _ => rfl
  | .nilp => rfl
  | .nilsl _ => rfl
  | .dead => rfl
theorem fzL_noOwn : (xs : List V) → anyOwn (fzL xs) = false
  | [] => rfl
  | x :: r => by simp only [fzL, anyOwn, fz_noOwn x, fzL_noOwn r]; rfl
end

mutual
theorem fz_fz : (x : V) → x.fz.fz = x.fz
  | .sl o m xs => by cases o <;> simp [V.fz]
  | .ptr o x => by cases o <;> simp [V.fz]
  | .agg cs => by simp only [V.fz]; rw [fzL_fzL cs]
  | .tup cs => by simp only [V.fz]; rw [fzL_fzL cs]
  | .clo _ _ => rfl
  | .fclo _ _ => rfl
  | .int _ _ => rfl
  | .bool _ => rfl
  | .str _ => rfl
  | .nilp => rfl
  | .nilsl _ => rfl
  | .dead => rfl
theorem fzL_fzL : (xs : List V) → fzL (fzL xs) = fzL xs
  | [] => rfl
  | x :: r => by simp only [fzL, fz_fz x, fzL_fzL r]
end

inductive Leaf : V → Value → Prop
  | int (k n) : Leaf (.int k n) (.int k n)
  | bool (b) : Leaf (.bool b) (.bool b)
  | str (s) : Leaf (.str s) (.string s)
  | nilp : Leaf .nilp (.pointer none)
  | nils (m) : Leaf (.sl false m []) (.slice none 0 0)
  | empt (m a) : Leaf (.sl false m []) (.slice (some a) 0 0)
  | nilsl (m) : Leaf (.nilsl m) (.slice none 0 0)
  | nils1 (m) : Leaf (.sl true m []) (.slice none 0 0)
  | dead (v) : Leaf .dead v

/-- a header: the value points at the block 'b' from 'off' on; 'k' cells belong to it; 'ch': what its cells read as -/
inductive Hdr : V → Value → Bool → Nat → Nat → Nat → List V → Prop
  | sl (o m xs b off cap) (hm : ∀ x ∈ xs, x.cells.length = m) (hcap : xs.length ≤ cap) :
      Hdr (.sl o m xs) (.slice (some ⟨b, off, none⟩) xs.length cap) o b off (cap * m) (flat xs)
  | ptr (o x b off) : Hdr (.ptr o x) (.pointer (some ⟨b, off, none⟩)) o b off x.cells.length x.cells

inductive Grp : V → Value → List V → List Value → Prop
  | agg (cs vs) : Grp (.agg cs) (.agg vs.toArray) cs vs
  | tup (cs vs) : Grp (.tup cs) (.tuple vs.toArray) cs vs
  | clo (f cs vs) : Grp (.clo f cs) (.func (.func f) #[] vs.toArray) cs vs
  | fclo (f cs ch vs) (e : ch = fzL cs) : Grp (.fclo f cs) (.func (.func f) #[] vs.toArray) ch vs

inductive RdL (w : World) (O : Nat → Prop) : List V → List Value → List Nat → Prop
  | nil : RdL w O [] [] []
  | leaf {x v xs vs fp} (h : Leaf x v) (t : RdL w O xs vs fp) : RdL w O (x :: xs) (v :: vs) fp
  | grp {x v ch vch fp1 xs vs fp2} (h : Grp x v ch vch) (s : RdL w O ch vch fp1) (t : RdL w O xs vs fp2) : RdL w O (x :: xs) (v :: vs) (fp1 ++ fp2)
  | fblk {x v b off k ch vch xs vs fp} (h : Hdr x v false b off k ch) (hc : ∀ i, i < vch.length → w.cell? ⟨b, off + i, none⟩ = vch[i]?) (hO : (ch = [] ∨ ¬ O b) ∧ anyOwn ch = false)
      (s : RdL w O ch vch []) (t : RdL w O xs vs fp) : RdL w O (x :: xs) (v :: vs) fp
  | oblk {x v b k ch arr e fp1 xs vs fp2} (h : Hdr x v true b 0 k ch) (hb : w.heap[b]? = some (.cells arr e (0, 0))) (hO : O b) (hk : k ≤ arr.size)
      (s : RdL w O ch (arr.toList.take ch.length) fp1) (t : RdL w O xs vs fp2) : RdL w O (x :: xs) (v :: vs) (b :: (fp1 ++ fp2))

theorem RdL.length {w O xs vs fp} (h : RdL w O xs vs fp) : vs.length = xs.length := by
  induction h <;> simp_all

theorem RdL.fpO {w O xs vs fp} (h : RdL w O xs vs fp) : ∀ b ∈ fp, O b ∧ b < w.heap.size := by
  induction h with
  | nil => simp
  | leaf _ _ ih => exact ih
  | grp _ _ _ ih1 ih2 => intro b hb; rcases List.mem_append.1 hb with h | h; exact ih1 b h; exact ih2 b h
  | fblk _ _ _ _ _ _ ih2 => exact ih2
  | oblk h hb hO hk s t ih1 ih2 =>
    intro b hb'
    rcases List.mem_cons.1 hb' with rfl | h
    · exact ⟨hO, (Array.getElem?_eq_some_iff.1 hb).1⟩
    · rcases List.mem_append.1 h with h | h; exact ih1 b h; exact ih2 b h

theorem cell_lt {w : World} {b o : Nat} {u : Value} (h : w.cell? ⟨b, o, none⟩ = some u) : b < w.heap.size := by
  unfold World.cell? at h
  rcases Nat.lt_or_ge b w.heap.size with h' | h'
  · exact h'
  · simp [Array.getElem?_eq_none h'] at h

theorem cell_same {w w' : World} {b : Nat} (h : w'.heap[b]? = w.heap[b]?) (o : Nat) : w'.cell? ⟨b, o, none⟩ = w.cell? ⟨b, o, none⟩ := by
  unfold World.cell?; simp only [h]

theorem RdL.frame {w w' : World} {O O' : Nat → Prop} {xs vs fp} (h : RdL w O xs vs fp) (h1 : ∀ b ∈ fp, w'.heap[b]? = w.heap[b]? ∧ O' b)
    (h2 : ∀ b, ¬ O b → b < w.heap.size → w'.heap[b]? = w.heap[b]? ∧ ¬ O' b) : RdL w' O' xs vs fp := by
  induction h with
  | nil => exact .nil
  | leaf h _ ih => exact .leaf h (ih h1)
  | grp h _ _ ih1 ih2 => exact .grp h (ih1 fun b hb => h1 b (by simp [hb])) (ih2 fun b hb => h1 b (by simp [hb]))
  | @fblk x v b off k ch vch xs vs fp h hc hO s t ih1 ih2 =>
    by_cases he : ch = []
    · subst he
      have hl := s.length
      simp at hl
      subst hl
      exact .fblk h (by simp) ⟨.inl rfl, hO.2⟩ (ih1 (by simp)) (ih2 h1)
    · have hOb := hO.1.resolve_left he
      have hl := s.length
      have hpos : 0 < vch.length := by rw [hl]; exact List.length_pos_iff.2 he
      have hlt : b < w.heap.size := cell_lt (u := vch[0]) (by rw [hc 0 hpos]; simp [hpos])
      obtain ⟨e, hO'⟩ := h2 b hOb hlt
      exact .fblk h (fun i hi => by rw [cell_same e]; exact hc i hi) ⟨.inr hO', hO.2⟩ (ih1 (by simp)) (ih2 h1)
  | @oblk x v b k ch arr e fp1 xs vs fp2 h hb hO hk s t ih1 ih2 =>
    have hb' := h1 b (by simp)
    exact .oblk h (by rw [hb'.1]; exact hb) hb'.2 hk (ih1 fun c hc => h1 c (by simp [hc])) (ih2 fun c hc => h1 c (by simp [hc]))

theorem anyOwn_append (xs ys : List V) : anyOwn (xs ++ ys) = (anyOwn xs || anyOwn ys) := by
  induction xs with
  | nil => simp [anyOwn]
  | cons x r ih => simp [anyOwn, ih, Bool.or_assoc]

theorem RdL.noOwn {w O xs vs fp} (h : RdL w O xs vs fp) (hn : anyOwn xs = false) : fp = [] := by
  induction h with
  | nil => rfl
  | leaf _ _ ih => simp [anyOwn] at hn; exact ih hn.2
  | grp h _ _ ih1 ih2 =>
    simp [anyOwn] at hn
    cases h with
    | fclo f cs ch vs e => subst e; simp [V.hasOwn] at hn; simp [ih1 (fzL_noOwn cs), ih2 hn]
    | _ => simp [V.hasOwn] at hn; simp [ih1 hn.1, ih2 hn.2]
  | fblk _ _ _ _ _ _ ih2 => simp [anyOwn] at hn; exact ih2 hn.2
  | oblk h _ _ _ _ _ _ _ => cases h <;> simp [anyOwn, V.hasOwn] at hn

theorem fzL_length (xs : List V) : (fzL xs).length = xs.length := by
  induction xs with
  | nil => rfl
  | cons x r ih => simp [fzL, ih]

theorem fzL_append (xs ys : List V) : fzL (xs ++ ys) = fzL xs ++ fzL ys := by
  induction xs with
  | nil => rfl
  | cons x r ih => simp [fzL, ih]

theorem fz_cells (x : V) : x.fz.cells = fzL x.cells := by
  cases x with
  | sl o m xs => cases o <;> simp [V.fz, V.cells, fzL]
  | ptr o y => cases o <;> simp [V.fz, V.cells, fzL]
  | nilsl m => simp [V.fz, V.cells, fzL]
  | _ => simp [V.fz, V.cells, fzL]

theorem anyOwn_take (xs : List V) (k : Nat) (h : anyOwn xs = false) : anyOwn (xs.take k) = false := by
  rw [← List.take_append_drop k xs, anyOwn_append, Bool.or_eq_false_iff] at h
  exact h.1
theorem anyOwn_drop (xs : List V) (k : Nat) (h : anyOwn xs = false) : anyOwn (xs.drop k) = false := by
  rw [← List.take_append_drop k xs, anyOwn_append, Bool.or_eq_false_iff] at h
  exact h.2

theorem flat_append (xs ys : List V) : flat (xs ++ ys) = flat xs ++ flat ys := by
  induction xs with
  | nil => rfl
  | cons x r ih => simp [flat, ih]

theorem fzL_flat (xs : List V) : flat (fzL xs) = fzL (flat xs) := by
  induction xs with
  | nil => rfl
  | cons x r ih => simp [fzL, flat, ih, fz_cells, fzL_append]

theorem mem_fzL {x : V} {xs : List V} (h : x ∈ fzL xs) : ∃ y ∈ xs, x = y.fz := by
  induction xs with
  | nil => simp [fzL] at h
  | cons y r ih =>
    simp only [fzL, List.mem_cons] at h
    rcases h with rfl | h
    · exact ⟨y, by simp, rfl⟩
    · obtain ⟨z, hz, e⟩ := ih h; exact ⟨z, by simp [hz], e⟩

theorem RdL.fz {w O O2 xs vs fp} (h : RdL w O xs vs fp) (h1 : ∀ b ∈ fp, ¬ O2 b) (h2 : ∀ b, ¬ O b → b < w.heap.size → ¬ O2 b) : RdL w O2 (fzL xs) vs [] := by
  induction h with
  | nil => exact .nil
  | leaf h _ ih =>
    refine .leaf ?_ (ih h1)
    cases h with
    | nils m => simp [V.fz]; exact .nils _
    | empt m a => simp [V.fz]; exact .empt _ _
    | nilsl m => simp only [V.fz]; exact .nils _
    | nils1 m => simp only [V.fz, fzL]; exact .nils _
    | _ => simp only [V.fz]; constructor
  | grp h _ _ ih1 ih2 =>
    have a := ih1 fun b hb => h1 b (by simp [hb])
    have b := ih2 fun b hb => h1 b (by simp [hb])
    cases h with
    | agg => exact .grp (.agg _ _) a b
    | tup => exact .grp (.tup _ _) a b
    | clo => exact .grp (.fclo _ _ _ _ rfl) a b
    | fclo f cs ch vs e => subst e; rw [fzL_fzL] at a; exact .grp (.fclo _ _ _ _ rfl) a b
  | @fblk x v b off k ch vch xs vs fp h hc hO s t ih1 ih2 =>
    have e : x.fz = x := by cases h <;> simp [V.fz]
    simp only [fzL, e]
    have s' : RdL w O2 ch vch [] := s.frame (by simp) fun b hb hl => ⟨rfl, h2 b hb hl⟩
    by_cases he : ch = []
    · exact .fblk h hc ⟨.inl he, hO.2⟩ s' (ih2 h1)
    · have hl := s.length
      have hpos : 0 < vch.length := by rw [hl]; exact List.length_pos_iff.2 he
      have hlt : b < w.heap.size := cell_lt (u := vch[0]) (by rw [hc 0 hpos]; simp [hpos])
      exact .fblk h hc ⟨.inr (h2 b (hO.1.resolve_left he) hlt), hO.2⟩ s' (ih2 h1)
  | @oblk x v b k ch arr e fp1 xs vs fp2 h hb hO hk s t ih1 ih2 =>
    have a := ih1 fun c hc => h1 c (by simp [hc])
    have t' := ih2 fun c hc => h1 c (by simp [hc])
    have hcell : ∀ i, i < (arr.toList.take ch.length).length → w.cell? ⟨b, 0 + i, none⟩ = (arr.toList.take ch.length)[i]? := by
      intro i hi
      simp [World.cell?, hb]
      simp at hi
      rw [List.getElem?_take, if_pos (by omega), Array.getElem?_toList]
    have hOb : ¬ O2 b := h1 b (by simp)
    cases h with
    | sl _ m ys _ _ cap hm hcap =>
      refine .fblk (k := cap * m) (ch := fzL (flat ys)) ?_ hcell ⟨.inr hOb, fzL_noOwn _⟩ a t'
      have := Hdr.sl false m (fzL ys) b 0 cap (fun x hx => by obtain ⟨y, hy, rfl⟩ := mem_fzL hx; rw [fz_cells, fzL_length]; exact hm y hy) (by rw [fzL_length]; exact hcap)
      rw [fzL_length, fzL_flat] at this
      simpa [V.fz] using this
    | ptr _ y _ _ =>
      refine .fblk (k := y.cells.length) (ch := fzL y.cells) ?_ hcell ⟨.inr hOb, fzL_noOwn _⟩ a t'
      have := Hdr.ptr false y.fz b 0
      rw [fz_cells, fzL_length] at this
      simpa [V.fz] using this

mutual
/-- nil is as good as an empty slice of one's own -/
def V.up : V → V
  | .nilsl m => .sl true m []
  | .agg cs => .agg (upL cs)
  | .tup cs => .tup (upL cs)
  | .sl o m xs => .sl o m xs
  | .ptr o x => .ptr o x
  | .clo f cs => .clo f cs
  | .fclo f cs => .fclo f cs
  | .int k n => .int k n
  | .bool b => .bool b
  | .str s => .str s
  | .nilp => .nilp
  | .dead => .dead
def upL : List V → List V
  | [] => []
  | v :: r => v.up :: upL r
end

theorem RdL.up {w O xs vs fp} (h : RdL w O xs vs fp) : RdL w O (upL xs) vs fp := by
  induction h with
  | nil => exact .nil
  | leaf h _ ih =>
    refine .leaf ?_ ih
    cases h <;> simp only [V.up] <;> constructor
  | grp h s t ih1 ih2 =>
    cases h with
    | agg => exact .grp (.agg _ _) ih1 ih2
    | tup => exact .grp (.tup _ _) ih1 ih2
    | clo => exact .grp (.clo _ _ _) s ih2
    | fclo f cs ch vs e => exact .grp (.fclo _ _ _ _ e) s ih2
  | fblk h hc hO s _ _ ih =>
    cases h with
    | sl o m xs b off cap hm hcap => exact .fblk (.sl _ _ _ _ _ _ hm hcap) hc hO s ih
    | ptr o x b off => exact .fblk (.ptr _ _ _ _) hc hO s ih
  | oblk h hb hO hk s _ _ ih =>
    cases h with
    | sl o m xs b off cap hm hcap => exact .oblk (.sl _ _ _ _ _ _ hm hcap) hb hO hk s ih
    | ptr o x b off => exact .oblk (.ptr _ _ _ _) hb hO hk s ih

theorem up_isCell (x : V) : x.up.isCell = x.isCell := by cases x <;> rfl
theorem up_cells (x : V) : x.up.cells = upL x.cells := by cases x <;> rfl
theorem upL_cellAll (xs : List V) : (upL xs).all V.isCell = xs.all V.isCell := by
  induction xs with
  | nil => rfl
  | cons x r ih => simp [upL, ih, up_isCell]
theorem RdL.up1 {w O x v fp} (h : RdL w O [x] [v] fp) : RdL w O [x.up] [v] fp := h.up

theorem upL_length (xs : List V) : (upL xs).length = xs.length := by
  induction xs with
  | nil => rfl
  | cons x r ih => simp [upL, ih]

theorem RdL.append {w O xs vs fp ys us gp} (h : RdL w O xs vs fp) (h' : RdL w O ys us gp) : RdL w O (xs ++ ys) (vs ++ us) (fp ++ gp) := by
  induction h with
  | nil => exact h'
  | leaf h _ ih => exact .leaf h ih
  | grp h s _ _ ih => simpa [List.append_assoc] using RdL.grp h s ih
  | fblk h hc hO s _ _ ih => exact .fblk h hc hO s ih
  | oblk h hb hO hk s _ _ ih => simpa [List.append_assoc] using RdL.oblk h hb hO hk s ih

theorem RdL.split {w O} : ∀ (xs : List V) {ys : List V} {vs : List Value} {fp : List Nat}, RdL w O (xs ++ ys) vs fp →
    ∃ vs1 vs2 fp1 fp2, vs = vs1 ++ vs2 ∧ fp = fp1 ++ fp2 ∧ RdL w O xs vs1 fp1 ∧ RdL w O ys vs2 fp2 := by
  intro xs
  induction xs with
  | nil => intro ys vs fp h; exact ⟨[], vs, [], fp, rfl, rfl, .nil, h⟩
  | cons x r ih =>
    intro ys vs fp h
    cases h with
    | leaf h t => obtain ⟨a, b, c, d, rfl, rfl, p, q⟩ := ih t; exact ⟨_ :: a, b, c, d, rfl, rfl, .leaf h p, q⟩
    | grp h s t => obtain ⟨a, b, c, d, rfl, rfl, p, q⟩ := ih t; exact ⟨_ :: a, b, _ ++ c, d, rfl, by simp, .grp h s p, q⟩
    | fblk h hc hO s t => obtain ⟨a, b, c, d, rfl, rfl, p, q⟩ := ih t; exact ⟨_ :: a, b, c, d, rfl, rfl, .fblk h hc hO s p, q⟩
    | oblk h hb hO hk s t => obtain ⟨a, b, c, d, rfl, rfl, p, q⟩ := ih t; exact ⟨_ :: a, b, _ :: (_ ++ c), d, rfl, by simp, .oblk h hb hO hk s p, q⟩

theorem RdL.cons_split {w O x xs vs fp} (h : RdL w O (x :: xs) vs fp) :
    ∃ v vs2 fp1 fp2, vs = v :: vs2 ∧ fp = fp1 ++ fp2 ∧ RdL w O [x] [v] fp1 ∧ RdL w O xs vs2 fp2 := by
  obtain ⟨vs1, vs2, fp1, fp2, rfl, rfl, a, b⟩ := RdL.split [x] (ys := xs) h
  have := a.length
  match vs1, this with
  | [v], _ => exact ⟨v, vs2, fp1, fp2, rfl, rfl, a, b⟩

theorem RdL.cons_join {w O x xs v vs fp1 fp2} (a : RdL w O [x] [v] fp1) (b : RdL w O xs vs fp2) : RdL w O (x :: xs) (v :: vs) (fp1 ++ fp2) := a.append b

/-- the parts of a list of cells, at place 'c' -/
theorem RdL.at {w O ch vch fp} (h : RdL w O ch vch fp) {c : Nat} {u : V} (hc : ch[c]? = some u) :
    ∃ l r vl x vr fl fu fr, ch = l ++ u :: r ∧ vch = vl ++ x :: vr ∧ fp = fl ++ (fu ++ fr) ∧ l.length = c ∧ vl.length = c ∧ RdL w O l vl fl ∧ RdL w O [u] [x] fu ∧ RdL w O r vr fr := by
  have hlt : c < ch.length := (List.getElem?_eq_some_iff.1 hc).1
  have e : ch = ch.take c ++ u :: ch.drop (c + 1) := by
    have : ch[c] = u := (List.getElem?_eq_some_iff.1 hc).2
    rw [← this, List.getElem_cons_drop, List.take_append_drop]
  rw [e] at h
  obtain ⟨vl, vs2, fl, fp2, rfl, rfl, a, b⟩ := RdL.split _ h
  obtain ⟨x, vr, fu, fr, rfl, rfl, p, q⟩ := b.cons_split
  have hl : (ch.take c).length = c := by simp; omega
  exact ⟨_, _, vl, x, vr, fl, fu, fr, e, rfl, rfl, hl, by rw [a.length, hl], a, p, q⟩

end Go.Proofs.Ythcnmahjhahafaa.Ax
