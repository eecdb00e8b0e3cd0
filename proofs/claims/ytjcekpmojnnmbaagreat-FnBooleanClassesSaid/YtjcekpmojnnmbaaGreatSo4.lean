/-
 Rows in memory: taken to pieces, read from now on, put together again in another order.
-/
import Derived.Test.YtjcekpmojnnmbaaGreatAx4
import Derived.Test.YtjcekpmojnnmbaaGreatSo3
namespace Go.Proofs.YtjcekpmojnnmbaaGreat.Ax
open Go Go.Sort
theorem RdL.pieces {w:World} {O:Nat→Prop} : ∀ {xs:List V} {vs:List Value} {fp:List Nat},RdL w O xs vs fp → ∃fps:List (List Nat),fps.length=xs.length∧fp=fps.flatten ∧ ∀i,i<xs.length→RdL w O [xs.getD i .dead] [vs.getD i undef] (fps.getD i [])
 | [],vs,fp,h=>by
   cases h
   exact ⟨[],rfl,rfl,fun i hi=>absurd hi (Nat.not_lt_zero i)⟩
 | x::xs,vs,fp,h=>by
   obtain ⟨v,vs2,f1,f2,rfl,rfl,h1,h2⟩:=h.cons_split
   obtain ⟨fps,e1,e2,h3⟩:=RdL.pieces h2
   refine ⟨f1::fps,by simp [e1],by simp [e2],fun i hi=> ?_⟩
   cases i with
   | zero=>simpa using h1
   | succ i=>simpa using h3 i (by simpa using hi)
theorem RdL.gather {w:World} {O:Nat→Prop} {X:Nat→V} {U:Nat→Value} {F:Nat→List Nat} : ∀is:List Nat,(∀i∈is,RdL w O [X i] [U i] (F i))→RdL w O (is.map X) (is.map U) (is.map F).flatten
 | [],_=> .nil
 | i::is,h=>by
   have:=RdL.cons_join (h i (by simp)) (RdL.gather is fun j hj=>h j (by simp [hj]))
   simpa using this
section
variable {α:Type} [Inhabited α] {enc:α→Value} {w0 W:World} {blk off:Nat} {dk:Array α}
theorem SX.heap (h:SX enc w0 blk off dk W) {b:Nat} (hb:b<w0.heap.size) (hne:b≠blk):W.heap[b]? = w0.heap[b]? := by
 obtain ⟨n,os,rfl⟩:=h
 rw [heap_grow_old _ _ (by rw [size_putRow];exact hb)]
 unfold putRow mapBlock
 simp [Array.getElem?_modify,Ne.symm hne]
theorem SX.row (h:SX enc w0 blk off dk W) {arr:Array Value} {e:TypeId} {fr:Nat×Nat} (hb:w0.heap[blk]? = some (.cells arr e fr)):W.heap[blk]? = some (.cells (putCells enc off dk arr) e fr):=by
 obtain ⟨n,os,rfl⟩:=h
 have hlt:blk<w0.heap.size:=(Array.getElem?_eq_some_iff.1 hb).1
 rw [heap_grow_old _ _ (by rw [size_putRow];exact hlt)]
 unfold putRow mapBlock
 simp only [Array.getElem?_modify,if_true]
 show Option.map _ w0.heap[blk]? = _
 rw [hb];rfl
theorem SX.rest (h:SX enc w0 blk off dk W):W.os=w0.os∧W.tape=w0.tape∧W.output=w0.output:=by
 obtain ⟨n,os,rfl⟩:=h
 exact ⟨rfl,rfl,rfl⟩
theorem Ak1 (arr:Array Value) (hd:dk.size≤arr.size):(putCells enc 0 dk arr).toList.take dk.size=dk.toList.map enc:=by
 apply List.ext_getElem?
 intro i
 unfold putCells
 by_cases hi:i<dk.size
 ·rw [List.getElem?_take,if_pos hi]
  simp [hi,show i<arr.size by omega]
 ·rw [List.getElem?_take,if_neg hi]
  simp [show ¬i<dk.size from hi]
end
theorem Mv.same_world {w w':World} {O O' S':Nat→Prop} (h:Mv w O (· ∈ ([]:List Nat)) w' O' S'):Alm w w':=by
 refine ⟨w'.drawn,w'.heap.extract w.heap.size w'.heap.size,?_⟩
 have hh:w'.heap=w.heap++w'.heap.extract w.heap.size w'.heap.size:=by
  apply Array.ext_getElem?
  intro i
  by_cases hi:i<w.heap.size
  ·rw [(h.same i hi (by simp)).1,Array.getElem?_append_left hi]
  ·rw [Array.getElem?_append_right (by omega)]
   by_cases h2:i<w'.heap.size
   ·simp [show i-w.heap.size<w'.heap.size-w.heap.size by omega,show w.heap.size+(i-w.heap.size)=i by omega]
   ·rw [Array.getElem?_eq_none (by omega),Array.getElem?_eq_none (by simp;omega)]
 cases w'
 simp only at hh
 unfold grow
 simp only [World.mk.injEq]
 exact ⟨hh,h.tape,trivial,h.os,h.output⟩
end Go.Proofs.YtjcekpmojnnmbaaGreat.Ax
