/-
 What sorting rows gives: the one sorted permutation, where the order that is handed over is an order.
-/
import Derived.Test.YtjcekpmojnnmbaaGreatSo2
namespace Go.Proofs.YtjcekpmojnnmbaaGreat.Ax
open Go
def Q0 (rows:List (List Int)) (order:List Int→List Int→Option Int) (lt:List Int→List Int→Bool):Prop:=
 Go.Sort.SWO lt∧(∀x y,lt x y=false→lt y x=false→x=y) ∧ ∀x∈rows,∀y∈rows,∃c,order x y=some c∧lt x y=decide (c<0)
open Classical in
noncomputable def F2 (rows0:List (List Int)) (order0:List Int→List Int→Option Int):Option (Unit×List (List Int)):=
 if h:rows0.length≤1048576 ∧ ∃lt,Q0 rows0 order0 lt then some ((),rows0.mergeSort fun x y => !(Classical.choose h.2) y x) else none
theorem Q0.total {lt:List Int→List Int→Bool} (h:Go.Sort.SWO lt) (a b:List Int):(!lt b a || !lt a b)=true:=by
 cases h1:lt a b with
 | false=>simp
 | true=>
   cases h2:lt b a with
   | false=>simp
   | true=>
     have:=h.trans a b a h1 h2
     rw [h.irrefl] at this
     cases this
theorem Q0.sorted {lt:List Int→List Int→Bool} (h:Go.Sort.SWO lt) (rows:List (List Int)):(rows.mergeSort fun x y => !lt y x).Pairwise fun a b=>lt b a=false:=by
 have:=List.pairwise_mergeSort (le:=fun x y => !lt y x) (fun a b c h1 h2=>by
  simp only [Bool.not_eq_true'] at h1 h2 ⊢
  exact h.ntrans _ _ _ h2 h1) (fun a b=>Q0.total h a b) rows
 exact this.imp fun h=>by simpa using h
theorem Aqp {rows ys:List (List Int)} {order:List Int→List Int→Option Int} (lt:List Int→List Int→Bool) (hO:Go.Sort.SWO lt) (h1 : ∀x y,lt x y=false→lt y x=false→x=y) (hn:rows.length≤1048576)
  (hc : ∀x∈rows,∀y∈rows,∃c,order x y=some c∧lt x y=decide (c<0)) (hp:ys.Perm rows) (hs:ys.Pairwise fun a b=>lt b a=false):F2 rows order=some ((),ys):=by
 have hx:rows.length≤1048576 ∧ ∃lt,Q0 rows order lt:=⟨hn,lt,hO,h1,hc⟩
 unfold F2
 rw [dif_pos hx]
 congr 2
 obtain ⟨g1,g2,g3⟩:=Classical.choose_spec hx.2
 have hm:=Q0.sorted g1 rows
 generalize hL:(rows.mergeSort fun x y => !(Classical.choose hx.2) y x)=L at hm
 have hLp:L.Perm rows:=by rw [←hL];exact List.mergeSort_perm _ _
 have same : ∀x∈rows,∀y∈rows,(Classical.choose hx.2) x y=lt x y:=fun x hx' y hy=>by
  obtain ⟨c,e1,e2⟩:=g3 x hx' y hy
  obtain ⟨c',e3,e4⟩:=hc x hx' y hy
  rw [e1] at e3;cases e3
  rw [e2,e4]
 refine List.Perm.eq_of_pairwise (le:=fun a b=>lt b a=false) (fun a b _ _ h h'=>h1 a b h' h) (hm.imp_of_mem fun {a b} ha hb h=> ?_) hs (hLp.trans hp.symm)
 rw [←same b (hLp.mem_iff.1 hb) a (hLp.mem_iff.1 ha)];exact h
end Go.Proofs.YtjcekpmojnnmbaaGreat.Ax
