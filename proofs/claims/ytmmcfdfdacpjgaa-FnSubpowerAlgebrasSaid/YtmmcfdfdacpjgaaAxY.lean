/-
 From what the walk says of a law to what the statement says of it.
-/
import Derived.Test.YtmmcfdfdacpjgaaAx4
import Derived.Carry
import Derived.ChangeSame
import Derived.ChangeSlices
import Derived.Deep.Matrix
import Derived.RowKit
import Derived.OpenShut
namespace Go.Proofs.Ytmmcfdfdacpjgaa.Ax
open Go Go.ChangeShapes Go.RowKit Go.Deep
section
variable {H:Type} {enc:TypeId×Value→H} {P:Program} {w:World}
theorem Atm {α:Type} (f:α→V) (h : ∀x,(f x).hasOwn=false) (xs:List α):A4 (xs.map f)=false:=by
 induction xs with
 | nil=>rfl
 | cons x r ih=>simp [A4,h,ih]
theorem Als {W W':World} (hl:laidOutB P=true) {sp:Nat→Bool} (hb:Below W.heap.size W W') : ∀ {ts:List TypeId} {vs:List Value} {ds:List (DataW H)} {ps:List MemPlace},(∀t∈ts,P.readableRec t=true∧t<P.types.size) →
  DataW.TrodAll enc P W 0 (fun _=>true) true ts vs ds ps→(∀x∈ps,x.block<W.heap.size∧sp x.block=true)→DataW.TrodAll enc P W' 0 sp true ts vs ds ps:=by
 intro ts
 induction ts with
 | nil=>intro vs ds ps _ h _;obtain ⟨rfl,rfl,rfl⟩:=trodAll_nil h;exact trodAll_mk0
 | cons t ts ih=>
   intro vs ds ps hr h hs
   obtain ⟨v,vs',d,ds',p,q,rfl,rfl,rfl,h0,h1⟩:=trodAll_cons h
   refine trodAll_cons_mk ?_ (ih (fun t ht=>hr t (by simp [ht])) h1 fun x hx=>hs x (by simp [hx]))
   exact WideElems.Trod_stays hl (hr t (by simp)).1 (hr t (by simp)).2 h0 (fun x hx=>hb.same (hs x (by simp [hx])).1) (fun x hx=>(hs x (by simp [hx])).2)
theorem Ayp {f:Nat} {fn:Func} {s:ChangeSpec} {W:World} {args:Array Value} {ds gs:List (DataW H)} {before:List MemPlace} {vs:List V} (hl:laidOutB P=true) (hv:s.vars=[])
  (hread : ∀t∈fn.params.toList,P.readableRec t=true∧t<P.types.size) {tb:TypeId} (hrt:fn.resultTypes = #[tb]) (htb:P.underlying tb=some .bool)
  (hfn : ∀ds:List (DataW H),ds.length=fn.params.size→s.fn H (ds++[])={ results:=[.lit (.bool true)],args:=ds })
  (hW:DataW.Whole enc P fn.params.toList s.vars false W args.toList ds gs before) (hrd:RdL W (fun _=>False) vs args.toList []) (hret:Ret P f vs (.bool true)) :
  Calls P f args W fun e W' => ∃v,e = .returned v∧s.post enc P fn false true false false W args v W':=by
 have hc:=(hret W (fun _=>False) args.toList [] hrd (by simp)).2
 have ea:args.toList.toArray=args:=by simp
 rw [ea] at hc
 refine hc.mono ?_
 rintro e W' ⟨res,outs,rv,O',fpr,fpo,rfl,rfl,hr,_,_,hm⟩
 have hrv:=D3 hr
 subst hrv
 have hB:Below W.heap.size W W':=⟨hm.os,hm.tape,hm.output,hm.size,fun k hk=>(hm.same k hk (by simp)).1⟩
 refine ⟨_,rfl,?_⟩
 have hW':=hW
 obtain ⟨p,q,hA,hV,rfl,hfz,hnd⟩:=hW
 rw [hv] at hV
 obtain ⟨rfl,rfl⟩:=trodVars_none hV
 have hlen:ds.length=fn.params.size:=by
  have key : ∀ {ts:List TypeId} {vs:List Value} {ds:List (DataW H)} {ps:List MemPlace},DataW.TrodAll enc P W 0 (fun _=>true) true ts vs ds ps→ds.length=ts.length:=by
   intro ts
   induction ts with
   | nil=>intro vs ds ps h;obtain ⟨_,rfl,_⟩:=trodAll_nil h;rfl
   | cons t ts ih=>intro vs ds ps h;obtain ⟨_,_,_,_,_,_,_,rfl,_,_,h1⟩:=trodAll_cons h;simp [ih h1]
  simpa using key hA
 have e1:=hfn ds hlen
 refine ⟨ds,[],p++[],[],p,[],hW',?_,?_,?_,hB.frame _,fun h=>by cases h⟩
 ·rw [e1,hrt]
  exact trodAll_cons_mk (shut_bool htb _) trodAll_mk0
 ·rw [e1]
  exact Als hl hB hread hA fun x hx=>⟨hW'.lt x (by simp [hx]),by simpa using hW'.lt x (by simp [hx])⟩
 rw [e1,hv];rfl
end
end Go.Proofs.Ytmmcfdfdacpjgaa.Ax
