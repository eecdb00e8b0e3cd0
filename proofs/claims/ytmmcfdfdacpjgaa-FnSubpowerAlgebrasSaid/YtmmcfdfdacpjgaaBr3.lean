/-
 An argument of bytes.
-/
import Derived.Test.YtmmcfdfdacpjgaaAxY
namespace Go.Proofs.Ytmmcfdfdacpjgaa.Ax
open Go Go.ChangeShapes Go.RowKit Go.Deep
section
variable {H:Type} {enc:TypeId×Value→H} {P:Program} {w:World}
abbrev Aiq (n:Int):V:=V.int IntKind.u8 n
theorem Ax5:One Aiq:=fun _=>⟨rfl,rfl⟩
theorem Aqx {O:Nat→Prop} (hO : ∀b,¬O b) {a:Addr} {len cap:Nat} {zs:List Int} (hl:len≤cap) (hz:zs.length=cap) (hc : ∀i,i<zs.length→w.cell? (a.add i)=some (.int .u8 (zs.getD i 0))) :
  RdL w O [slr false 1 Aiq (zs.take len)] [.slice (some a) len cap] []:=by
 have rdl : ∀xs:List Int,RdL w O (xs.map Aiq) (xs.map fun n=>Value.int .u8 n) []:=by
  intro xs
  induction xs with
  | nil=>exact .nil
  | cons x r ih=>exact .leaf (.int _ _) ih
 by_cases h0:cap=0
 ·subst h0
  have:len=0:=by omega
  subst this
  exact .leaf (show Leaf (V.sl false 1 (([]:List Int).map Aiq)) _ from Leaf.empt 1 a) .nil
 ·obtain ⟨b,off,spot⟩:=a
  have h1:=hc 0 (by omega)
  have hs:spot=none:=by
   cases spot with
   | none=>rfl
   | some s=>simp [World.cell?,Addr.add] at h1;split at h1<;>simp_all
  subst hs
  have hlen:(zs.take len).length=len:=by rw [List.length_take];omega
  have hd:=Hdr.sl false 1 ((zs.take len).map Aiq) b off cap (by intro x hx;obtain ⟨n,_,rfl⟩:=List.mem_map.1 hx;rfl) (by rw [List.length_map,hlen];exact hl)
  rw [Aco Ax5,List.length_map,hlen] at hd
  refine .fblk (vch:=(zs.take len).map fun n=>Value.int .u8 n) hd ?_ ⟨.inr (hO b),Atm _ (fun _=>rfl) _⟩ (rdl _) .nil
  intro i hi
  have hi':i<len:=by rw [List.length_map,hlen] at hi;exact hi
  have:=hc i (by omega)
  rw [G9] at this
  rw [this]
  simp [List.getD_eq_getElem?_getD,hi',show i<zs.length by omega]
theorem Aq2 {O:Nat→Prop} (hO : ∀b,¬O b) {base:Nat} {held:Bool} {t q:TypeId} {v:Value} {d:DataW H} {ps:List MemPlace} (ht:P.underlying t=some (.slice q)) (hq:P.underlying q=some (.int .u8)) (cq:P.cellsOf q=1)
  {r:Reach} {b0:Nat} (hval:Value.okWide P w r b0 t v) (h:DataW.Trod enc P w base (fun _=>true) held t v d ps) : ∃(xs:List Int),xs.length≤maxLen∧(∀x∈xs,0≤x∧x≤255)∧RdL w O [slr false 1 Aiq xs] [v] []:=by
 obtain ⟨fuel,h⟩:=h
 have hv:v.cells.toList=[v]:=by
  obtain ⟨a,b,c,rfl⟩:=Go.WideShapes.okWide_slice ht hval
  rfl
 rw [hv] at h
 rcases open_ints ht hq cq h with ⟨e,_⟩ | ⟨a,len,cap,zs,e,_,h1,h2,h3,_,h4,h5⟩
 ·cases e
  exact ⟨[],by simp,by simp,.leaf (show Leaf (V.sl false 1 (([]:List Int).map Aiq)) _ from Leaf.nils 1) .nil⟩
 ·cases e
  have h3':zs.length=cap:=by simpa using h3
  refine ⟨zs.take len,by rw [List.length_take];omega,fun x hx=> ?_,Aqx hO h1 h3' h4⟩
  have:=h5 x (List.mem_of_mem_take hx)
  simp only [Lit.wf,Bool.and_eq_true,decide_eq_true_eq] at this
  have e1:IntKind.u8.min=0:=by decide
  have e2:IntKind.u8.max=255:=by decide
  rw [e1,e2] at this
  exact this
end
end Go.Proofs.Ytmmcfdfdacpjgaa.Ax
