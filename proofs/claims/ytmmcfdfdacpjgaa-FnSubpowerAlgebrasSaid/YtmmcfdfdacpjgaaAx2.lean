/-
 Part of the proof; see the last text of the claim.
-/
import Derived.Test.YtmmcfdfdacpjgaaAx1
import Derived.IntWalk
import Derived.Great.BuildSlice
import Derived.Laws.Tables
import Derived.MapKept
import Derived.Laws.BytesString
import Derived.Laws.Slices
import Derived.Laws.Strings2
import Derived.Tactics
import Derived.Conc.MuLone
namespace Go.Proofs.Ytmmcfdfdacpjgaa.Ax
open Go
theorem Ain {w O x v fp} (h:RdL w O [x] [v] fp) (hc:x.isCell=true):v.oneCell'=true∧v.cells = #[v]:=by
 cases h with
 | leaf hl _=>cases hl<;>first | exact ⟨rfl,rfl⟩ | (simp [V.isCell] at hc;done) | (simp only [V.isCell] at hc;split at hc<;>first | exact ⟨rfl,rfl⟩ | cases hc)
 | grp hg _ _=>cases hg<;>first | exact ⟨rfl,rfl⟩ | (simp [V.isCell] at hc;done) | (subst_vars;exact ⟨rfl,rfl⟩)
 | fblk hh _ _ _ _=>cases hh<;>exact ⟨rfl,rfl⟩
 | oblk hh _ _ _ _ _=>cases hh<;>exact ⟨rfl,rfl⟩
 | mpf _ _ _ _=>exact ⟨rfl,rfl⟩
 | mpo _ _ _ _=>exact ⟨rfl,rfl⟩
theorem V8 {w O} : ∀ {xs vs fp},RdL w O xs vs fp→Cj xs=true → ∀v∈vs,v.oneCell'=true:=by
 intro xs
 induction xs with
 | nil=>intro vs fp h _ v hv;cases h;simp at hv
 | cons x r ih=>
   intro vs fp h hc v hv
   simp [Cj] at hc
   obtain ⟨u,us,f1,f2,rfl,rfl,h1,h2⟩:=h.cons_split
   rcases List.mem_cons.1 hv with rfl | hv
   ·exact (Ain h1 hc.1).1
   ·exact ih h2 (by simpa [Cj] using hc.2) v hv
theorem Y1 {w O x v fp} (h:RdL w O [x] [v] fp) (hc:Cj x.cells=true) : ∃us,v.cells=us.toArray∧RdL w O x.cells us fp:=by
 cases hx:x.isAgg with
 | true=>
   cases x<;>simp [V.isAgg] at hx
   obtain ⟨vs,rfl,hr⟩:=Ao7 h
   exact ⟨vs,rfl,hr⟩
 | false=>
   have e:x.cells=[x]:=by cases x<;>simp [V.isAgg] at hx<;>rfl
   rw [e] at hc ⊢
   simp [Cj] at hc
   exact ⟨[v],(Ain h hc).2,h⟩
theorem A0e {P:Program} {o:Oper} {σ σ' a w O gv N vals fp} {t n x x' v v'} {fi:TypeInfo} (h:Ok σ a w O gv N vals fp) (ho:o.op = .store t x' v') (hd:o.dst=none)
  (hx:Au N x x'=true) (hv:Au N v v'=true) (hi:P.info? t=some fi) (hsz:fi.size=n) (hs:Aoh σ n x v=some σ'):Bo P o σ' a w O gv N fp:=by
 simp only [Aoh] at hs
 split at hs
 case h_2=>cases hs
 rename_i U σ1 hU
 split at hs
 case h_2=>cases hs
 rename_i r p c hl
 split at hs
 case h_2=>cases hs
 rename_i T hT
 split at hs
 case h_2=>cases hs
 rename_i nd hnd
 split at hs
 case isFalse=>cases hs
 rename_i hcond
 simp only [Bool.and_eq_true,decide_eq_true_eq] at hcond
 obtain ⟨⟨hnode,hlen⟩,hcell⟩:=hcond
 split at hs
 case h_2=>cases hs
 rename_i nd' hnd'
 split at hs
 case h_2=>cases hs
 rename_i T' hT'
 cases hs
 obtain ⟨fp1,fpV,o1,rV,nV,dV,s1⟩:=My h (Ap h hv) hU
 obtain ⟨us,hcells,rus⟩:=Y1 rV hcell
 have hlus:us.length=n:=by rw [rus.length,hlen]
 have hrel:=L8 o1 (Ap o1 hx) hl
 obtain ⟨T2,nd2,hdr,b,hT2,hnd2,_,hval,hblk,haddr⟩:=hrel
 rw [hT] at hT2;cases hT2
 rw [hnd] at hnd2;cases hnd2
 have hR:=o1.sim.own r T hT
 obtain ⟨x0,f1,fu,f2,efp,hx0,hru,hset⟩:=ctx p hR hnd
 rw [hval] at hx0;cases hx0
 have hstep:nd.stepOk=true:=by cases nd<;>simp [V.node] at hnode<;>first | simpa [V.stepOk] using hnode | simp [V.setKids] at hnd'
 obtain ⟨b',k,arr,e,fpk,hh,hb,hO,hk,hkids,efu⟩:=(Ac0 hru hnode hstep).resolve_left (by rintro ⟨m,_,c,_⟩;rw [c] at hblk;cases hblk)
 have hbb:b'=b:=by have:=hh.block;rw [hblk] at this;cases this;rfl
 subst hbb
 obtain ⟨ch',hh',hch',hlch',hcn⟩:=hh.set hnd'
 have hkl:nd.kids.length≤arr.size:=by
  have:=hkids.length
  simp at this
  omega
 have hnodup:=o1.sim.nd r
 rw [efp] at hnodup
 have nd1:=List.nodup_append.1 hnodup
 have nd2':=List.nodup_append.1 nd1.2.1
 have ndu:(b'::fpk).Nodup:=by rw [←efu];exact nd2'.1
 have hbk:b'∉fpk:=(List.nodup_cons.1 ndu).1
 have hbr:b'∈fp1 r:=by rw [efp,efu];simp
 have hbV:b'∉fpV:=fun hb'=>(dV b' hb').2 ⟨r,hbr⟩
 let arr':Array Value:=(arr.toList.take c++us++arr.toList.drop (c+us.length)).toArray
 have hw':w.setRow b' arr'=w.setRow b' arr':=rfl
 have hfit:c+0+us.length≤arr.size:=by rw [hlen] at hcn;omega
 have hst:=run_storeCells_at P b' c e us 0 arr w hb hfit (V8 rus hcell)
 simp only [Nat.add_zero] at hst
 have hheap:(w.setRow b' arr').heap[b']? = some (.cells arr' e (0,0)):=setRow_heap w b' arr arr' e (0,0) hb
 have hother : ∀q,q≠b'→(w.setRow b' arr').heap[q]? = w.heap[q]? := fun q hq=>setRow_other w b' q arr' hq
 have hstill:Iq w O (w.setRow b' arr') O:=fun q hq _=>⟨hother q (fun e=>hq (e▸hO)),hq⟩
 have hsz':arr'.size=arr.size:=by simp [arr'];omega
 obtain ⟨m,hm⟩ : ∃m,nd.kids=nd.kids.take c++(m++nd.kids.drop (c+n))∧m.length=n:=by
  refine ⟨(nd.kids.drop c).take n,?_,by simp;omega⟩
  rw [←List.drop_drop,List.take_append_drop,List.take_append_drop]
 have hkids':=hkids
 rw [hm.1] at hkids'
 obtain ⟨vl,v2,fl,f2',ev1,ef1,rl,rest⟩:=RdL.split _ hkids'
 obtain ⟨vm,vr,fm,fr,ev2,ef2,rm,rr⟩:=RdL.split _ rest
 subst ev2;subst ef2
 have hvl:vl.length=c:=by rw [rl.length];simp;omega
 have hvm:vm.length=n:=by rw [rm.length,hm.2]
 have eqarr:arr.toList.take nd.kids.length=vl++(vm++vr):=by
  rw [←hm.1] at ev1;exact ev1
 have earr':arr'.toList.take ch'.length=vl++(us++vr):=by
  have hdrop:arr.toList=vl++(vm++vr)++arr.toList.drop nd.kids.length:=by rw [←eqarr,List.take_append_drop]
  have htk:arr.toList.take c=vl:=by
   rw [hdrop,List.append_assoc,List.take_left' hvl]
  have hdr2:arr.toList.drop (c+us.length)=vr++arr.toList.drop nd.kids.length:=by
   rw [hlus]
   conv=>lhs;rw [hdrop]
   rw [List.append_assoc,List.append_assoc,←List.append_assoc vl vm]
   rw [List.drop_left' (by simp [hvl,hvm])]
  have hl1:(vl++(us++vr)).length=ch'.length:=by
   rw [hlch']
   have:=congrArg List.length eqarr
   simp at this ⊢
   omega
  simp only [arr',htk,hdr2]
  rw [show vl++us++(vr++arr.toList.drop nd.kids.length)=(vl++(us++vr))++arr.toList.drop nd.kids.length by simp]
  rw [←hl1,List.take_left]
 have frm : ∀ {xs vs f},RdL w O xs vs f→b'∉f→RdL (w.setRow b' arr') O xs vs f:=fun hr hnb=>
  hr.frame (fun q hq=>⟨hother q (fun e=>hnb (e▸hq)),(hr.fpO q hq).1⟩) hstill
 have sub1 : ∀q,q∈fl∨q∈fm∨q∈fr→q∈fpk:=by
  intro q hq;rw [ef1];simp;rcases hq with h | h | h<;>simp [h]
 have rl':=frm rl fun hq=>hbk (sub1 _ (.inl hq))
 have rr':=frm rr fun hq=>hbk (sub1 _ (.inr (.inr hq)))
 have ru':=frm rus hbV
 have hch:ch'=nd.kids.take c++(U.cells++nd.kids.drop (c+n)):=by rw [hch',splice,hlen]
 have hnode':RdL (w.setRow b' arr') O [nd'] [hdr] (b'::((fl++(fpV++fr))++[])):=by
  refine RdL.oblk hh' hheap hO (by omega) ?_ .nil
  rw [earr',hch]
  exact rl'.append (ru'.append rr')
 simp only [List.append_nil] at hnode'
 have hrest : ∀q∈f1++f2,(w.setRow b' arr').heap[q]? = w.heap[q]? ∧ O q:=by
  intro q hq
  have hqr:q∈fp1 r:=by rw [efp];simp at hq ⊢;rcases hq with h | h<;>simp [h]
  refine ⟨hother q ?_,(o1.sim.fpO r q hqr).1⟩
  rintro rfl
  rcases List.mem_append.1 hq with h | h
  ·exact nd1.2.2 q h q (by simp [efu]) rfl
  ·exact nd2'.2.2 q (by simp [efu]) q h rfl
 have hRT:=hset (w.setRow b' arr') O T' nd' _ hT' hrest hstill hnode'
 have hbu:b'∈fu:=by rw [efu];simp
 have hknode:=(Mj hnd').2.1
 have hsim:=o1.sim.turn r (p.length+1) T T' _ hT hstill (fun s hs q hq=>⟨hother q (by rintro rfl;exact hs (o1.sim.dj s r q hq hbr)),(o1.sim.fpO s q hq).1⟩) hRT
  (by
   have hV : ∀q∈fpV,q∉fp1 r:=fun q hq hq'=>(dV q hq).2 ⟨r,hq'⟩
   have n1 : ∀q,q∈f1→q∈fp1 r:=fun q hq=>by rw [efp];simp [hq]
   have n2 : ∀q,q∈f2→q∈fp1 r:=fun q hq=>by rw [efp];simp [hq]
   have n3 : ∀q,q∈fpk→q∈fp1 r:=fun q hq=>by rw [efp,efu];simp [hq]
   have ndk:fpk.Nodup:=(List.nodup_cons.1 ndu).2
   rw [ef1] at ndk
   have k1:=List.nodup_append.1 ndk
   have k2:=List.nodup_append.1 k1.2.1
   have inner:(b'::(fl++(fpV++fr))).Nodup:=by
    refine List.nodup_cons.2 ⟨?_,?_⟩
    ·simp only [List.mem_append,not_or]
     exact ⟨fun hq=>hbk (sub1 _ (.inl hq)),hbV,fun hq=>hbk (sub1 _ (.inr (.inr hq)))⟩
    ·refine List.nodup_append.2 ⟨k1.1,List.nodup_append.2 ⟨nV,k2.2.1,?_⟩,?_⟩
     ·rintro q hq q' hq' rfl;exact hV q hq (n3 q (sub1 q (.inr (.inr hq'))))
     ·rintro q hq q' hq' rfl
      rcases List.mem_append.1 hq' with h | h
      ·exact hV q h (n3 q (sub1 q (.inl hq)))
      ·exact k1.2.2 q hq q (by simp [h]) rfl
   have mem : ∀q,q∈b'::(fl++(fpV++fr))→q∈fu∨q∈fpV:=by
    intro q hq
    simp only [List.mem_cons,List.mem_append] at hq
    rcases hq with h | h | h | h
    ·exact .inl (by rw [h];exact hbu)
    ·exact .inl (by rw [efu];simp [sub1 q (.inl h)])
    ·exact .inr h
    ·exact .inl (by rw [efu];simp [sub1 q (.inr (.inr h))])
   refine List.nodup_append.2 ⟨nd1.1,List.nodup_append.2 ⟨inner,nd2'.2.1,?_⟩,?_⟩
   ·rintro q hq q' hq' rfl
    rcases mem q hq with h | h
    ·exact nd2'.2.2 q h q hq' rfl
    ·exact hV q h (n2 q hq')
   ·rintro q hq q' hq' rfl
    rcases List.mem_append.1 hq' with h | h
    ·rcases mem q h with h | h
     ·exact nd1.2.2 q hq q (by simp [h]) rfl
     ·exact hV q h (n1 q hq)
    ·exact nd1.2.2 q hq q (by simp [h]) rfl)
  (by
   intro q hq s hs hqs
   simp only [List.mem_append,List.mem_cons] at hq
   rcases hq with h | (h | h | h | h) | h
   ·exact hs (o1.sim.dj s r q hqs (by rw [efp];simp [h]))
   ·exact hs (o1.sim.dj s r q hqs (by rw [h];exact hbr))
   ·exact hs (o1.sim.dj s r q hqs (by rw [efp,efu];simp [sub1 q (.inl h)]))
   ·exact (dV q h).2 ⟨s,hqs⟩
   ·exact hs (o1.sim.dj s r q hqs (by rw [efp,efu];simp [sub1 q (.inr (.inr h))]))
   ·exact hs (o1.sim.dj s r q hqs (by rw [efp];simp [h])))
  (by
   intro q u v hlt hq hvq
   obtain ⟨u2,h2,h3⟩:=Adp p q hq hnd hT' (by omega) (fun _ _=>by rw [hknode];exact hnode)
   refine ⟨u2,h2,h3,?_⟩
   rw [So p q hR (o1.sim.nd r) hnd hq (by omega) hval hru (fun z hz hzn=>hother z (by rintro rfl;exact hzn hbu))]
   exact hvq)
 rw [←J9 hT] at hsim
 refine ⟨undef,w.setRow b' arr',O,vals,upF fp1 r (f1++((b'::(fl++(fpV++fr)))++f2)),.inr ⟨?_,rfl⟩,?_,?_⟩
 ·have hcs:(a.eval v').cells.size=fi.size:=by rw [hcells];simp;omega
  simp [execOp,ho,haddr,Instr.storeAt,Instr.sureAddr,storeVar,E4 hi,hcells,hlus,hsz,hst]
  simp [arr',hlus]
 ·rw [hd]
  exact ⟨hsim,o1.lo,o1.hi,o1.sz,o1.df⟩
 refine ⟨rfl,rfl,rfl,by simp [World.setRow],?_,?_⟩
 ·intro q _ hq
  exact ⟨hother q (by rintro rfl;exact hq (s1 _ ⟨r,hbr⟩)),.rfl⟩
 rintro q ⟨s,hs⟩
 left
 simp only [upF] at hs
 split at hs
 ·simp only [List.mem_append,List.mem_cons] at hs
  rcases hs with h | (h | h | h | h) | h
  ·exact s1 q ⟨r,by rw [efp];simp [h]⟩
  ·exact s1 q ⟨r,by rw [h];exact hbr⟩
  ·exact s1 q ⟨r,by rw [efp,efu];simp [sub1 q (.inl h)]⟩
  ·exact (dV q h).1
  ·exact s1 q ⟨r,by rw [efp,efu];simp [sub1 q (.inr (.inr h))]⟩
  exact s1 q ⟨r,by rw [efp];simp [h]⟩
 exact s1 q ⟨s,hs⟩
end Go.Proofs.Ytmmcfdfdacpjgaa.Ax
namespace Go.Proofs.Ytmmcfdfdacpjgaa.Ax
open Go
theorem Au2 {P:Program} {o:Oper} {σ1 a w w' O gv N vals} {fp fp1:Nat→List Nat} {d:Nat} {U':V} {hv:Value} {k:Nat} {ch:List V} {arr:Array Value} {e:TypeId} {fpV:List Nat} {σ2:St}
  (h:Ok σ1 a w O gv N vals fp1) (hd:o.dst=some d) (hN:d<N) (hs : ∀b,Sof fp1 b→Sof fp b) (hV : ∀b∈fpV,Sof fp b∧¬Sof fp1 b) (hnd:fpV.Nodup)
  (hw:w'.heap=w.heap.push (.cells arr e)) (hos:w'.os=w.os) (htape:w'.tape=w.tape) (hout:w'.output=w.output)
  (hh:Hdr U' hv true w.heap.size 0 k ch) (hk:k≤arr.size) (hr:RdL w O ch (arr.toList.take ch.length) fpV)
  (hrun:(execOp a.eval o).run P w = .ok (.value hv) w')
  (hext : ∀a' vals' fp',Ok (Ak d (.val U') σ1) a' w' (fun b=>O b∨b=w.heap.size) gv N vals' fp'→vals'=upF vals d hv→Ok σ2 a' w' (fun b=>O b∨b=w.heap.size) gv N vals' fp'):Bo P o σ2 a w O gv N fp:=by
 let O':Nat→Prop:=fun b=>O b∨b=w.heap.size
 have hold : ∀b,b<w.heap.size→w'.heap[b]? = w.heap[b]? := fun b hb=>by rw [hw];exact Om w _ b hb
 have hstill:Iq w O w' O':=fun b hb hlt=>⟨hold b hlt,by simp [O'];exact ⟨hb,by omega⟩⟩
 have hlt1 : ∀b,Sof fp1 b→O b∧b<w.heap.size:=fun b ⟨s,hs⟩=>h.sim.fpO s b hs
 have o1:Ok σ1 a w' O' gv N vals fp1:=h.world hstill fun b hb=>⟨hold b (hlt1 b hb).2,.inl (hlt1 b hb).1⟩
 have hVlt : ∀b∈fpV,O b∧b<w.heap.size:=hr.fpO
 have hr':RdL w' O' ch (arr.toList.take ch.length) fpV:=hr.frame (fun b hb=>⟨hold b (hVlt b hb).2,.inl (hVlt b hb).1⟩) hstill
 have hblk:w'.heap[w.heap.size]? = some (.cells arr e (0,0)):=by rw [hw];simp
 have hread:RdL w' O' [U'] [hv] (w.heap.size::(fpV++[])):= .oblk hh hblk (.inr rfl) hk hr' .nil
 simp only [List.append_nil] at hread
 obtain ⟨fp',o2,s2⟩:=o1.put_own hN hread (List.nodup_cons.2 ⟨fun hb=>by have:=(hVlt _ hb).2;omega,hnd⟩) (by
  intro b hb hb1
  rcases List.mem_cons.1 hb with rfl | hb
  ·have:=(hlt1 _ hb1).2;omega
  ·exact (hV b hb).2 hb1)
 refine ⟨hv,w',O',_,fp',.inl hrun,by rw [hd];exact hext _ _ _ o2 rfl,⟨hos,htape,hout,by rw [hw];simp,?_,?_⟩⟩
 ·intro b hb _
  exact ⟨hold b hb,by simp [O'];omega⟩
 intro b hb
 rcases s2 b hb with h | h
 ·exact .inl (hs b h)
 rcases List.mem_cons.1 h with rfl | h
 ·exact .inr (Nat.le_refl _)
 exact .inl (hV b h).1
theorem Wt {P:Program} {o:Oper} {σ1 a w w' O gv N vals} {fp fp1:Nat→List Nat} {d:Nat} {U':V} {hv:Value} {k:Nat} {ch:List V} {arr:Array Value} {e:TypeId} {fpV:List Nat}
  (h:Ok σ1 a w O gv N vals fp1) (hd:o.dst=some d) (hN:d<N) (hs : ∀b,Sof fp1 b→Sof fp b) (hV : ∀b∈fpV,Sof fp b∧¬Sof fp1 b) (hnd:fpV.Nodup)
  (hw:w'.heap=w.heap.push (.cells arr e)) (hos:w'.os=w.os) (htape:w'.tape=w.tape) (hout:w'.output=w.output)
  (hh:Hdr U' hv true w.heap.size 0 k ch) (hk:k≤arr.size) (hr:RdL w O ch (arr.toList.take ch.length) fpV)
  (hrun:(execOp a.eval o).run P w = .ok (.value hv) w'):Bo P o (Ak d (.val U') σ1) a w O gv N fp:=
 Au2 h hd hN hs hV hnd hw hos htape hout hh hk hr hrun fun _ _ _ h _=>h
def Ap1 (d:Nat):A→V→St→St
 | .ref r [],.agg cs,σ=>if r=d then σ else (r,.agg (Tc d [] 0 cs))::erase r σ
 | _,_,σ=>σ
def A1z (d:Nat) (x:A) (σ:St):Option St:=match Ie σ x with
 | some (U,σ1)=>if Cj U.cells then some (Ap1 d x U (Ak d (.val (.ptr true U)) σ1)) else none
 | none=>none
theorem Azh {σ σ1:St} {a a':Act} {w w':World} {O O':Nat→Prop} {gv N} {vals vals':Nat→Value} {fp fp':Nat→List Nat} {d:Nat} {y:A} {v hv:Value} {U:V} {us:List Value} {fpV:List Nat} (_h:Ok σ a w O gv N vals fp)
  (hr:RelL w O (look σ) vals [y] [v]) (hU:Ie σ y=some (U,σ1)) (rV:RdL w O [U] [v] fpV) (hcells:v.cells=us.toArray) (hl:us.length=U.cells.length)
  (hok:Ok (Ak d (.val (.ptr true U)) σ1) a' w' O' gv N vals' fp') (hvals:vals'=upF vals d hv) (hk : ∀j,Ge w' hv j=us[j]?):Ok (Ap1 d y U (Ak d (.val (.ptr true U)) σ1)) a' w' O' gv N vals' fp':=by
 unfold Ap1
 split
 case h_2=>exact hok
 rename_i r cs
 split
 ·exact hok
 rename_i hrd
 have hT:look σ r = .val (.agg cs)∧σ1=Ak r .top σ:=by
  simp only [Ie,Fv] at hU
  split at hU
  ·rename_i T hL;cases hU;exact ⟨hL,rfl⟩
  ·cases hU
 obtain ⟨hT,rfl⟩:=hT
 have hvr:vals r=v:=by
  cases hr with
  | ref _ _ hv _=>simpa [B5] using hv
 have hL:look (Ak d (.val (.ptr true (.agg cs))) (Ak r .top σ)) d = .val (.ptr true (.agg cs)):=by
  rw [Bl];simp [upF,A.mapR]
 have hd':vals' d=hv:=by rw [hvals];simp [upF]
 obtain ⟨us',h1,h2,h3⟩:=Z7 hok hL (p:=[]) (u:= .ptr true (.agg cs)) rfl rfl (v:=vals' d) rfl cs 0 (by intro j hj;simp [V.kids,V.cells])
 have hus:us'=us:=by
  apply List.ext_getElem?
  intro j
  by_cases hj:j<us'.length
  ·have:=h2 j hj
   rw [←this,hd',←hk j];simp
  ·rw [List.getElem?_eq_none (by omega),List.getElem?_eq_none]
   simp only [V.cells] at hl
   omega
 subst hus
 have hvu:v = .agg us'.toArray:=by
  obtain ⟨vs,rfl,_⟩:=Ao7 rV
  simp only [Value.cells] at hcells
  rw [hcells]
 have hv':vals' r = .agg us'.toArray:=by rw [hvals,←hvu,←hvr];simp [upF,hrd]
 have htop:look (Ak d (.val (.ptr true (.agg cs))) (Ak r .top σ)) r = .top:=by
  rw [Bl];simp only [upF,Gw];rw [if_neg hrd,if_neg hrd,Bl];simp [upF,A.mapR]
 have hs:=hok.sim.put_rel r (.agg (Tc d [] 0 cs)) htop (by rw [hv'];exact .agg h3 .nil)
 have e:look ((r,A.agg (Tc d [] 0 cs))::erase r (Ak d (.val (.ptr true (.agg cs))) (Ak r .top σ)))=upF (look (Ak d (.val (.ptr true (.agg cs))) (Ak r .top σ))) r (.agg (Tc d [] 0 cs)):=by
  funext s
  simp only [look,Rv,upF]
  by_cases hs:r=s
  ·subst hs;simp
  ·rw [if_neg hs,if_neg (Ne.symm hs),if_neg (Ne.symm hs)]
 rw [←e] at hs
 exact ⟨hs,hok.lo,hok.hi,hok.sz,hok.df⟩
theorem A21 {P:Program} {o:Oper} {σ σ' a w O gv N vals fp} {d:Nat} {t x x'} (h:Ok σ a w O gv N vals fp) (ho:o.op = .box t x') (hd:o.dst=some d) (hN:d<N)
  (hx:Au N x x'=true) (hs:A1z d (Ai σ x) σ=some σ'):Bo P o σ' a w O gv N fp:=by
 simp only [A1z] at hs
 split at hs
 case h_2=>cases hs
 rename_i U σ1 hU
 split at hs
 case isFalse=>cases hs
 rename_i hc
 cases hs
 have hrel:=Ap h hx
 obtain ⟨fp1,fpV,o1,rV,nV,dV,s1⟩:=My h hrel hU
 obtain ⟨us,hcells,rus⟩:=Y1 rV hc
 have hl:=rus.length
 exact Au2 (w':=w.alloc (.cells us.toArray t)) (arr:=us.toArray) (e:=t) o1 hd hN s1 dV nV rfl rfl rfl rfl (.ptr true U w.heap.size 0) (by simp [hl]) (by simpa [hl] using (by rw [←hl];simpa using rus))
  (by simp [execOp,ho,Instr.box,newVar,newRow,hcells])
  (fun a' vals' fp' hok hv=>Azh h hrel hU rV hcells hl hok hv (by
   intro j
   have e:(w.alloc (.cells us.toArray t)).heap=w.heap.push (.cells us.toArray t (0,0)):=rfl
   have e2:(w.alloc (.cells us.toArray t)).heap[w.heap.size]? = some (.cells us.toArray t (0,0)):=by rw [e];simp
   simp only [Ge,World.cell?,Nat.zero_add]
   rw [e2];simp))
theorem A2d {w O tv f cs v fp} (h:RdL w O [.clov tv f cs] [v] fp):v=tv:=by
 cases h with
 | leaf hl _=>cases hl
 | grp hg _ _=>cases hg;rfl
 | fblk hh _ _ _ _=>cases hh
 | oblk hh _ _ _ _ _=>cases hh
def A1b (d:Nat) (z:V) (σ:St):Option St:=if Cj z.cells then some (Ak d (.val (.ptr true z.up)) σ) else none
theorem A28 {P:Program} {o:Oper} {σ σ' a w O gv N vals fp} {d:Nat} {t z zv} {fi:TypeInfo} (h:Ok σ a w O gv N vals fp) (ho:o.op = .alloc t) (hd:o.dst=some d) (hN:d<N)
  (hi:P.info? t=some fi) (hz:fi.zero=some zv) (hc:cRd z zv=true) (hs:A1b d z σ=some σ'):Bo P o σ' a w O gv N fp:=by
 simp only [A1b] at hs
 split at hs
 case isFalse=>cases hs
 rename_i hcell
 cases hs
 obtain ⟨rV,_⟩:=Akp w O z zv hc
 obtain ⟨us,hcells,rus⟩:=Y1 rV.up1 (by rw [Air];unfold Cj at hcell ⊢;rw [Ago];exact hcell)
 have hl:=rus.length
 exact Wt (w':=w.alloc (.cells us.toArray t)) (arr:=us.toArray) (e:=t) (fpV:=[]) h hd hN (fun _=>id) (by simp) (by simp) rfl rfl rfl rfl (.ptr true z.up w.heap.size 0) (by simp [hl])
  (by simpa [hl] using (by rw [←hl];simpa using rus)) (by simp [execOp,ho,Instr.alloc,zeroValue,typeInfo,hi,hz,newVar,newRow,hcells])
def LIM:Nat:=4294967296
theorem Z9 {n:Int} (h0 : -9223372036854775808≤n) (h1:n≤9223372036854775807):IntKind.i64.wrap n=n:=by
 exact IntWalk.i64_in n ⟨h0,h1⟩
def mkS (d m:Nat) (z:V) (x:A) (σ:St):Option St:=match x with
 | .val (.int _ n)=>if 0≤n∧n≤(LIM:Int) then some (Ak d (.val (.sl true m (List.replicate n.toNat z.up))) σ) else none
 | _=>none
theorem Ys (n:Nat) (z:V):Ay (List.replicate n z)=(List.replicate n z.cells).flatten:=by
 induction n with
 | zero=>rfl
 | succ n ih=>simp [List.replicate_succ,Ay,ih]
theorem App {w O z zs} (h:RdL w O z zs []) (n:Nat):RdL w O (List.replicate n z).flatten (List.replicate n zs).flatten []:=by
 induction n with
 | zero=>exact .nil
 | succ n ih=>simpa [List.replicate_succ] using h.append ih
theorem A0v (zs:List Value) : ∀n,(madeCells zs.toArray (n*zs.length)).toList=(List.replicate n zs).flatten:=by
 intro n
 apply List.ext_getElem?
 intro i
 rcases Nat.eq_zero_or_pos zs.length with h0 | hpos
 ·have:zs=[]:=List.eq_nil_of_length_eq_zero h0
  subst this;simp [madeCells]
 have hR : ∀n i,(List.replicate n zs).flatten[i]? = if i<n*zs.length then zs[i%zs.length]? else none:=by
  intro n
  induction n with
  | zero=>intro i;simp
  | succ n ih=>
    intro i
    rw [List.replicate_succ,List.flatten_cons]
    rcases Nat.lt_or_ge i zs.length with h | h
    ·rw [List.getElem?_append_left h,if_pos (by rw [Nat.succ_mul];omega),Nat.mod_eq_of_lt h]
    ·rw [List.getElem?_append_right h,ih]
     have e:i%zs.length=(i-zs.length)%zs.length:=by rw [Nat.mod_eq_sub_mod h]
     rw [e]
     by_cases hlt:i-zs.length<n*zs.length
     ·rw [if_pos hlt,if_pos (by rw [Nat.succ_mul];omega)]
     ·rw [if_neg hlt,if_neg (by rw [Nat.succ_mul];omega)]
 rw [hR]
 simp only [madeCells,Array.toList_map,Array.toList_range,List.getElem?_map]
 by_cases hlt:i<n*zs.length
 ·rw [if_pos hlt,List.getElem?_range hlt]
  have hm:i%zs.length<zs.length:=Nat.mod_lt _ hpos
  simp [hm]
 rw [if_neg hlt,List.getElem?_eq_none (by simpa using hlt)];rfl
theorem Av4 {P:Program} {o:Oper} {σ σ' a w O gv N vals fp} {d m:Nat} {t x x' e z zv} {fi:TypeInfo} (h:Ok σ a w O gv N vals fp) (ho:o.op = .makeSlice t x' x') (hd:o.dst=some d) (hN:d<N)
  (hx:Au N x x'=true) (hu:P.underlying t=some (.slice e)) (hi:P.info? e=some fi) (hsz:fi.size=m) (hz:fi.zero=some zv) (hc:cRd z zv=true) (hzc:Cj z.cells=true)
  (hzm:z.cells.length=m) (hby:fi.bytes≤1024) (hs:mkS d m z (Ai σ x) σ=some σ'):Bo P o σ' a w O gv N fp:=by
 cases hcc:Ai σ x with
 | val v=>
   cases v with
   | int k n=>
     rw [hcc] at hs
     have hr:=Ap h hx
     rw [hcc] at hr
     have hv:a.eval x' = .int k n:=by cases hr with | val _ hr _=>exact B4 hr
     simp only [mkS] at hs
     split at hs
     case isFalse=>cases hs
     rename_i hb
     cases hs
     simp only [LIM] at hb
     obtain ⟨rV,_⟩:=Akp w O z zv hc
     replace rV:=rV.up1
     replace hzc:Cj z.up.cells=true:=by rw [Air];unfold Cj at hzc ⊢;rw [Ago];exact hzc
     replace hzm:z.up.cells.length=m:=by rw [Air,Atx];exact hzm
     generalize z.up=z at rV hzc hzm ⊢
     obtain ⟨zs,hcells,rzs⟩:=Y1 rV hzc
     have hzl:zs.length=m:=by rw [rzs.length,hzm]
     have hbytes:(fi.bytes:Int)*n≤281474976710656:=by
      have h1:(fi.bytes:Int)≤1024:=by omega
      calc (fi.bytes:Int)*n≤1024*n:=Int.mul_le_mul_of_nonneg_right h1 hb.1
       _≤281474976710656:=by omega
     have hrun:=run_make (P:=P) w t e fi zv hu hi hz k k n n hb.1 (Int.le_refl _) hbytes (by omega)
     have hfl:(Ay (List.replicate n.toNat z)).length=n.toNat*m:=by
      rw [Ys];simp [hzm]
     have harr:(madeCells zv.cells (n.toNat*fi.size)).toList=(List.replicate n.toNat zs).flatten:=by
      rw [hcells,hsz,←hzl];exact A0v zs n.toNat
     have hsize:(madeCells zv.cells (n.toNat*fi.size)).size=n.toNat*m:=by simp [madeCells,hsz]
     have hhdr:=Hdr.sl true m (List.replicate n.toNat z) w.heap.size 0 n.toNat (by intro y hy;rw [(List.mem_replicate.1 hy).2];exact hzm) (by simp)
     simp only [List.length_replicate] at hhdr
     refine Wt (w':=w.alloc (.cells (madeCells zv.cells (n.toNat*fi.size)) e)) (fpV:=[]) h hd hN (fun _=>id) (by simp) (by simp) rfl rfl rfl rfl hhdr (by rw [hsize];omega) ?_
      (by simp [execOp,ho,hv,hrun])
     rw [harr,List.take_of_length_le (by rw [hfl,←harr,Array.length_toList,hsize];omega),Ys]
     exact App rzs n.toNat
   | _=>rw [hcc] at hs;simp [mkS] at hs
 | _=>rw [hcc] at hs;simp [mkS] at hs
def Axv (d m:Nat) (x:A) (σ:St):Option St:=match x with
 | .val (.int _ n)=>if 0≤n∧n≤(LIM:Int) then some (Ak d (.val (.sl true m [])) σ) else none
 | _=>none
theorem A4l {P:Program} {o:Oper} {σ σ' a w O gv N vals fp} {d m:Nat} {t x x' e zv k0} {fi:TypeInfo} (h:Ok σ a w O gv N vals fp) (ho:o.op = .makeSlice t (.const (.int k0 0)) x') (hd:o.dst=some d) (hN:d<N)
  (hx:Au N x x'=true) (hu:P.underlying t=some (.slice e)) (hi:P.info? e=some fi) (hsz:fi.size=m) (hz:fi.zero=some zv)
  (hby:fi.bytes≤1024) (hs:Axv d m (Ai σ x) σ=some σ'):Bo P o σ' a w O gv N fp:=by
 cases hcc:Ai σ x with
 | val v=>
   cases v with
   | int k n=>
     rw [hcc] at hs
     have hr:=Ap h hx
     rw [hcc] at hr
     have hv:a.eval x' = .int k n:=by cases hr with | val _ hr _=>exact B4 hr
     simp only [Axv] at hs
     split at hs
     case isFalse=>cases hs
     rename_i hb
     cases hs
     simp only [LIM] at hb
     have hbytes:(fi.bytes:Int)*n≤281474976710656:=by
      have h1:(fi.bytes:Int)≤1024:=by omega
      calc (fi.bytes:Int)*n≤1024*n:=Int.mul_le_mul_of_nonneg_right h1 hb.1
       _≤281474976710656:=by omega
     have hrun:=run_make (P:=P) w t e fi zv hu hi hz k0 k 0 n (Int.le_refl 0) hb.1 hbytes (by omega)
     have hsize:(madeCells zv.cells (n.toNat*fi.size)).size=n.toNat*m:=by simp [madeCells,hsz]
     have hhdr:=Hdr.sl true m [] w.heap.size 0 n.toNat (by intro y hy;cases hy) (by simp)
     simp only [List.length_nil] at hhdr
     refine Wt (w':=w.alloc (.cells (madeCells zv.cells (n.toNat*fi.size)) e)) (fpV:=[]) h hd hN (fun _=>id) (by simp) (by simp) rfl rfl rfl rfl hhdr (by rw [hsize];omega) ?_
      (by
       have he:a.eval (Operand.const (Value.int k0 0))=Value.int k0 0:=rfl
       simp [execOp,ho,hv,he,hrun])
     exact .nil
   | _=>rw [hcc] at hs;simp [Axv] at hs
 | _=>rw [hcc] at hs;simp [Axv] at hs
end Go.Proofs.Ytmmcfdfdacpjgaa.Ax
namespace Go.Proofs.Ytmmcfdfdacpjgaa.Ax
open Go
theorem Ag4 : ∀(us:List Value) (k off:Nat) (cells:Array Value),off+k+us.length≤cells.size →
  ((us.zipIdx k).foldl (fun (cs:Array Value) (x:Value×Nat)=>cs.setIfInBounds (off+x.2) x.1) cells).toList=splice cells.toList (off+k) us:=by
 intro us
 induction us with
 | nil=>intro k off cells _;simp [splice]
 | cons u r ih=>
   intro k off cells h
   simp only [List.zipIdx_cons,List.foldl_cons]
   simp at h
   rw [ih (k+1) off _ (by simp;omega)]
   simp only [splice,Array.toList_setIfInBounds,List.length_cons]
   have hlt:off+k<cells.toList.length:=by simp;omega
   rw [List.set_eq_take_append_cons_drop,if_pos hlt]
   have e1:off+(k+1)=off+k+1:=by omega
   rw [e1]
   have hl:(cells.toList.take (off+k)).length=off+k:=by simp;omega
   rw [List.take_append,List.drop_append,hl]
   rw [List.take_of_length_le (l:=cells.toList.take (off+k)) (by omega),List.drop_eq_nil_of_le (as:=cells.toList.take (off+k)) (by omega)]
   simp only [Nat.add_sub_cancel_left]
   rw [show off+k+1+r.length-(off+k)=r.length+1 by omega]
   simp only [List.take_succ_cons,List.take_zero,List.drop_succ_cons,List.drop_drop,List.nil_append,List.append_assoc,List.cons_append]
   congr 4;omega
theorem Ani {place:Nat→Option (Nat×Nat)} {cells:Array Value} {i off size:Nat} {v:Value} {rest:List (Nat×Value)} (hp:place i=some (off,size)) (hs:v.cells.size=size)
  (hl:off+size≤cells.size) : ∃cells',Instr.fill place cells ((i,v)::rest)=Instr.fill place cells' rest∧cells'.toList=splice cells.toList off v.cells.toList∧cells'.size=cells.size:=by
 refine ⟨v.cells.zipIdx.foldl (fun cs (c,j)=>cs.setIfInBounds (off+j) c) cells,?_,?_,?_⟩
 ·simp only [Instr.fill,hp]
  rw [if_neg (by simp [hs];omega)]
 ·rw [←Array.foldl_toList,Array.toList_zipIdx]
  have:=Ag4 v.cells.toList 0 off cells (by simp [hs];omega)
  simpa using this
 have:=Ag4 v.cells.toList 0 off cells (by simp [hs];omega)
 rw [←Array.foldl_toList,Array.toList_zipIdx]
 rw [←Array.length_toList]
 have h2:=congrArg List.length this
 rw [Uu (by simp [hs];omega)] at h2
 simpa using h2
theorem Aze (size:Nat) : ∀(vs:List Value) (k:Nat) (cells:Array Value),(∀v∈vs,v.cells.size=size)→(k+vs.length)*size≤cells.size →
  ∃cells',Instr.fill (fun i=>some (i*size,size)) cells ((List.range' k vs.length).zip vs)=some cells' ∧
    cells'.toList=splice cells.toList (k*size) (vs.map (·.cells.toList)).flatten:=by
 intro vs
 induction vs with
 | nil=>intro k cells _ _;exact ⟨cells,rfl,by simp [splice]⟩
 | cons v r ih=>
   intro k cells hv hl
   simp only [List.length_cons] at hl
   have hk:k*size+size≤cells.size:=by
    have:(k+1)*size≤(k+(r.length+1))*size:=Nat.mul_le_mul_right _ (by omega)
    rw [Nat.succ_mul] at this;omega
   obtain ⟨c1,h1,h2,h3⟩:=Ani (place:=fun i=>some (i*size,size)) (cells:=cells) (i:=k) (v:=v) (rest:=(List.range' (k+1) r.length).zip r) rfl (hv v (by simp)) hk
   obtain ⟨c2,h4,h5⟩:=ih (k+1) c1 (fun u hu=>hv u (by simp [hu])) (by rw [h3];rw [show k+1+r.length=k+(r.length+1) by omega];exact hl)
   refine ⟨c2,?_,?_⟩
   ·rw [List.length_cons,List.range'_succ,List.zip_cons_cons,h1,h4]
   ·rw [h5,h2]
    have hvl:v.cells.toList.length=size:=by simp [hv v (by simp)]
    simp only [splice,List.map_cons,List.flatten_cons,List.length_append,hvl]
    have hl1:(cells.toList.take (k*size)).length=k*size:=by simp;omega
    rw [List.take_append,List.drop_append,hl1,List.take_of_length_le (l:=cells.toList.take (k*size)) (by rw [hl1,Nat.succ_mul];omega),
     List.drop_eq_nil_of_le (as:=cells.toList.take (k*size)) (by rw [hl1,Nat.succ_mul];omega)]
    rw [show (k+1)*size-k*size=size by rw [Nat.succ_mul];omega]
    rw [List.take_append,hvl,List.take_of_length_le (l:=v.cells.toList) (by omega),Nat.sub_self,List.take_zero,List.append_nil]
    rw [show ∀q,(k+1)*size+q-k*size=size+q from fun q=>by rw [Nat.succ_mul];omega]
    rw [List.drop_append,hvl,List.drop_eq_nil_of_le (as:=v.cells.toList) (by omega),Nat.add_sub_cancel_left]
    simp only [List.nil_append,List.drop_drop,List.append_assoc]
    have e : ∀q,k*size+size+q=k*size+(size+q):=fun q=>by omega
    rw [e]
def Od (σ:St):List A→Option (List V×St)
 | []=>some ([],σ)
 | a::r=>match Ie σ a with
   | some (v,σ1)=>match Od σ1 r with
     | some (vs,σ2)=>some (v::vs,σ2)
     | none=>none
   | none=>none
theorem Aw2 {a w O gv N vals L} : ∀ {as:List A} {σ vs fp Us σ'},Ok σ a w O gv N vals fp→RelL w O L vals as vs→Od σ as=some (Us,σ') →
  ∃fp' fpV,Ok σ' a w O gv N vals fp'∧RdL w O Us vs fpV∧fpV.Nodup∧(∀b∈fpV,Sof fp b∧¬Sof fp' b)∧(∀b,Sof fp' b→Sof fp b):=by
 intro as
 induction as with
 | nil=>
   intro σ vs fp Us σ' h hr ht
   simp [Od] at ht;obtain ⟨rfl,rfl⟩:=ht
   cases hr
   exact ⟨fp,[],h,.nil,by simp,by simp,fun _=>id⟩
 | cons x r ih=>
   intro σ vs fp Us σ' h hr ht
   simp only [Od] at ht
   split at ht
   case h_2=>cases ht
   rename_i U σ1 h1
   split at ht
   case h_2=>cases ht
   rename_i Us' σ2 h2
   cases ht
   have hlen:=hr.length
   match vs,hlen with
   | v::vs,_=>
     have hr1:RelL w O L vals [x] [v]∧RelL w O L vals r vs:=by
      cases hr with
      | top t=>exact ⟨.top .nil,t⟩
      | val a b t=>exact ⟨.val a b .nil,t⟩
      | ref a b c t=>exact ⟨.ref a b c .nil,t⟩
      | rfv a b c t=>exact ⟨.rfv a b c .nil,t⟩
      | addr a b c d e t=>exact ⟨.addr a b c d e .nil,t⟩
      | fad a b c t=>exact ⟨.fad a b c .nil,t⟩
      | agg s t=>exact ⟨.agg s .nil,t⟩
      | clo s t=>exact ⟨.clo s .nil,t⟩
     obtain ⟨fp1,f1,o1,r1,n1,d1,s1⟩:=My h hr1.1 h1
     obtain ⟨fp2,f2,o2,r2,n2,d2,s2⟩:=ih o1 hr1.2 h2
     refine ⟨fp2,f1++f2,o2,r1.append r2,?_,?_,fun b hb=>s1 b (s2 b hb)⟩
     ·refine List.nodup_append.2 ⟨n1,n2,?_⟩
      rintro b hb c hc rfl
      exact (d1 b hb).2 (d2 b hc).1
     ·intro b hb
      rcases List.mem_append.1 hb with hb | hb
      ·exact ⟨(d1 b hb).1,fun hh=>(d1 b hb).2 (s2 b hh)⟩
      ·exact ⟨s1 b (d2 b hb).1,(d2 b hb).2⟩
def Sd (m:Nat):List V→Bool
 | []=>true
 | u::r=>decide (u.cells.length=m)&&Cj u.cells&&Sd m r
theorem A06 {w O m} : ∀ {Us vs fp},RdL w O Us vs fp→Sd m Us=true → ∃us,(vs.map (·.cells.toList)).flatten=us∧RdL w O (Ay Us) us fp∧(∀v∈vs,v.cells.size=m) ∧
  us.length=Us.length*m∧(∀u∈Us,u.cells.length=m):=by
 intro Us
 induction Us with
 | nil=>intro vs fp h _;cases h;exact ⟨[],rfl,.nil,by simp,by simp,by simp⟩
 | cons x r ih=>
   intro vs fp h ha
   simp only [Sd,Bool.and_eq_true,decide_eq_true_eq] at ha
   obtain ⟨v,vs2,f1,f2,rfl,rfl,h1,h2⟩:=h.cons_split
   obtain ⟨us,hc,hr⟩:=Y1 h1 ha.1.2
   obtain ⟨us2,e2,r2,m2,l2,c2⟩:=ih h2 ha.2
   have hul:us.length=m:=by rw [hr.length,ha.1.1]
   refine ⟨us++us2,by simp [hc,e2],hr.append r2,?_,?_,?_⟩
   ·intro u hu
    rcases List.mem_cons.1 hu with rfl | hu
    ·simp [hc,hul]
    ·exact m2 u hu
   ·rw [List.length_append,hul,l2,List.length_cons,Nat.succ_mul];omega
   ·intro u hu
    rcases List.mem_cons.1 hu with rfl | hu
    ·exact ha.1.1
    ·exact c2 u hu
def Asy (d m:Nat) (xs:List A) (σ:St):Option St:=match Od σ xs with
 | some (Us,σ1)=>if Sd m Us then some (Ak d (.val (.sl true m Us)) σ1) else none
 | none=>none
def Ob (N:Nat):List X→List Operand→Bool
 | [],[]=>true
 | x::xs,o::os=>Au N x o&&Ob N xs os
 | _,_=>false
theorem Abz {σ a w O gv N vals fp} (h:Ok σ a w O gv N vals fp) : ∀ {xs:List X} {os:List Operand},Ob N xs os=true→RelL w O (look σ) vals (xs.map (Ai σ)) (os.map a.eval):=by
 intro xs
 induction xs with
 | nil=>intro os hf;cases os<;>simp [Ob] at hf;exact .nil
 | cons x r ih=>
   intro os hf
   cases os with
   | nil=>simp [Ob] at hf
   | cons o os=>
     simp only [Ob,Bool.and_eq_true] at hf
     exact (Ap h hf.1).cons_join (ih hf.2)
theorem Azi {P:Program} {o:Oper} {σ σ' a w O gv N vals fp} {d m:Nat} {t e} {n:Nat} {xs:List X} {parts:Array (Nat×Operand)} {fi:TypeInfo} {z:Value} (h:Ok σ a w O gv N vals fp)
  (ho:o.op = .buildSlice t n parts) (hd:o.dst=some d) (hN:d<N) (hp1:parts.toList.map (·.1)=List.range n) (hp2:Ob N xs (parts.toList.map (·.2))=true)
  (hu:P.underlying t=some (.slice e)) (hi:P.info? e=some fi) (hsz:fi.size=m) (hz:fi.zero=some z) (hm:0<m) (hsmall:n*m≤16777216)
  (hs:Asy d m (xs.map (Ai σ)) σ=some σ'):Bo P o σ' a w O gv N fp:=by
 simp only [Asy] at hs
 split at hs
 case h_2=>cases hs
 rename_i Us σ1 hU
 split at hs
 case isFalse=>cases hs
 rename_i hall
 cases hs
 obtain ⟨fp1,fpV,o1,rV,nV,dV,s1⟩:=Aw2 h (Abz h hp2) hU
 obtain ⟨us,eus,rus,hsize,hlen,hUc⟩:=A06 rV hall
 have hn:(parts.toList.map (·.2)).length=n:=by
  have:=congrArg List.length hp1;simpa using this
 have hUn:Us.length=n:=by have:=rV.length;simp at this;simp at hn;omega
 have hparts:(parts.map fun (x:Nat×Operand)=>(x.1,a.eval x.2)).toList=(List.range' 0 n).zip ((parts.toList.map (·.2)).map a.eval):=by
  simp only [Array.toList_map]
  rw [←List.range_eq_range',←hp1]
  generalize parts.toList=l
  induction l with
  | nil=>rfl
  | cons x r ih=>simp [ih]
 have hhdr:=Hdr.sl true m Us w.heap.size 0 n hUc (by omega)
 rw [hUn] at hhdr
 by_cases h0:n=0
 ·subst h0
  have hUe:Us=[]:=List.eq_nil_of_length_eq_zero hUn
  subst hUe
  refine Wt (w':=w.alloc (.cells #[] e)) (arr := #[]) (e:=e) o1 hd hN s1 dV nV rfl rfl rfl rfl hhdr (by simp) ?_ ?_
  ·have:us=[]:=by simpa using hlen
   subst this;simpa [Ay] using rus
  have:parts.toList=[]:=by simpa using hp1
  have:parts = #[]:=by simpa using this
  subst this
  simp [execOp,ho,Instr.buildSlice,run_underlying hu,E4 hi,Instr.fill,newRow]
  congr 2;apply Array.ext<;>simp
 obtain ⟨cells,hf,hc⟩:=Aze m ((parts.toList.map (·.2)).map a.eval) 0 ((Array.range (n*m)).map (z.cells[· % z.cells.size]!)) hsize (by simp at hn ⊢;rw [hn];exact Nat.le_refl _)
 have hcells:cells.toList=us:=by
  rw [hc,eus]
  have:us.length=n*m:=by rw [hlen,hUn]
  simp [splice,this]
 refine Wt (w':=w.alloc (.cells cells e)) (arr:=cells) (e:=e) o1 hd hN s1 dV nV rfl rfl rfl rfl hhdr (by rw [←Array.length_toList,hcells,hlen,hUn];omega) ?_ ?_
 ·rw [hcells,List.take_of_length_le (by rw [←rus.length];omega)];exact rus
 have hpos:¬n*fi.size=0:=by rw [hsz];exact Nat.ne_of_gt (Nat.mul_pos (by omega) hm)
 have hbs:=run_buildSlice (P:=P) w t e n (parts.map fun (x:Nat×Operand)=>(x.1,a.eval x.2)) cells fi z hu hi hz (by rw [hsz];omega) hpos (by
  rw [hparts,hsz]
  simp only [List.length_map] at hf hn
  rw [hn] at hf
  exact hf)
 simp [execOp,ho,hbs]
end Go.Proofs.Ytmmcfdfdacpjgaa.Ax
namespace Go.Proofs.Ytmmcfdfdacpjgaa.Ax
open Go
theorem Ue {P:Program} (w:World) (t ty e e':TypeId) (i:TypeInfo) (ht:P.underlying t=some (.slice e)) (hi:P.info? e=some i)
  (g sLen sCap:Nat) (cur:Array Value) (hg:w.heap[g]? = some (.cells cur e' (0,0)))
  (b:Value) (m:Nat) (news:List Value) (_hf : ∀w,(Builtin.firstCells i.size m b).run P w = .ok news.toArray w→True)
  (hlen:(Builtin.lenOf b).run P w = .ok m w) (hfirst:(Builtin.firstCells i.size m b).run P w = .ok news.toArray w) (h1 : ∀u∈news,u.oneCell'=true)
  (hroom:sLen+m≤sCap) (hfit:sLen*i.size+news.length≤cur.size) :
  (Builtin.append_ #[t,t] ty #[.slice (some ⟨g,0,none⟩) sLen sCap,b]).run P w =
   .ok (.slice (some ⟨g,0,none⟩) (sLen+m) sCap) (w.setRow g (cur.toList.take (sLen*i.size)++news++cur.toList.drop (sLen*i.size+news.length)).toArray):=by
 have hst:=run_storeCells_at P g (sLen*i.size) e' news 0 cur w hg (by simpa using hfit) h1
 simp only [Nat.add_zero] at hst
 simp [Builtin.append_,run_underlying ht,Go.sizeOf,typeInfo,hi,hlen,hroom,hfirst,Addr.add_lit,hst]
def yS (σ:St) (m:Nat):A→Option (List V×St)
 | .val (.sl _ m' ys)=>if m'=m then some (ys,σ) else none
 | .val (.nilsl _)=>some ([],σ)
 | .ref r p=>match B0 σ r p with
   | some (.sl o m' ys)=>if o=true∧m'=m then (if A4 (Ay ys) then (match Fv σ (.ref r p) with | some (_,σ1)=>some (ys,σ1) | none=>none) else some (ys,σ)) else none
   | _=>none
 | _=>none
theorem Aua {σ r p U σ1 u} (h:Fv σ (.ref r p)=some (U,σ1)) (hn:B0 σ r p=some u):U=u:=by
 unfold B0 at hn
 split at hn
 case h_2=>cases hn
 rename_i V hV
 cases p with
 | nil=>simp [Fv,hV] at h;simp [sub] at hn;rw [←h.1,hn]
 | cons c p=>
   simp only [Fv,hV,hn] at h
   split at h
   ·cases h;rfl
   ·cases h
theorem Yv {w O m ys v fp} (h:RdL w O [.sl true m ys] [v] fp):(ys=[]∧v = .slice none 0 0∧fp=[]) ∨ ∃b cap arr e fpk,v = .slice (some ⟨b,0,none⟩) ys.length cap∧w.heap[b]? = some (.cells arr e (0,0))∧ys.length≤cap∧cap*m≤arr.size ∧
  (∀y∈ys,y.cells.length=m)∧RdL w O (Ay ys) (arr.toList.take (Ay ys).length) fpk∧fp=b::fpk∧O b:=by
 rcases Ac0 h rfl rfl with ⟨m',e1,e2,e3⟩ | ⟨b,k,arr,e,f1,hh,hb,hO,hk,hr,rfl⟩
 ·cases e1;exact .inl ⟨rfl,e2,e3⟩
 cases hh with
 | sl _ _ _ _ _ cap hm hcap=>exact .inr ⟨b,cap,arr,e,f1,rfl,hb,hcap,hk,hm,hr,rfl,hO⟩
theorem Ed {m:Nat} : ∀ {ys:List V},(∀y∈ys,y.cells.length=m)→(Ay ys).length=ys.length*m:=by
 intro ys
 induction ys with
 | nil=>intro _;simp [Ay]
 | cons y r ih=>
   intro h
   simp only [Ay,List.length_append,List.length_cons]
   rw [h y (by simp),ih fun z hz=>h z (by simp [hz]),Nat.succ_mul];omega
theorem Att {w O o m ys v fp} (h:RdL w O [.sl o m ys] [v] fp) (ho:o=false) :
  ∃q c us,v = .slice q ys.length c∧RdL w O (Ay ys) us []∧(∀z∈ys,z.cells.length=m) ∧
    ((ys=[]∧us=[]) ∨ ∃b,q=some b ∧ ∀j u,us[j]? = some u→w.cell? (b.add j)=some u):=by
 subst ho
 cases h with
 | leaf hl _=>cases hl<;>exact ⟨_,_,[],rfl,.nil,by simp,.inl ⟨rfl,rfl⟩⟩
 | grp hg _ _=>cases hg
 | oblk hh _ _ _ _ _=>cases hh
 | fblk hh hc hO s t=>
   cases hh with
   | sl _ _ _ b off cap hm hcap=>
     refine ⟨_,_,_,rfl,s,hm,.inr ⟨_,rfl,?_⟩⟩
     intro j u hj
     rw [G9,hc j (List.getElem?_eq_some_iff.1 hj).1];exact hj
theorem U1 {w:World} {b:Nat} {arr:Array Value} {e:TypeId} {n:Nat} (hb:w.heap[b]? = some (.cells arr e (0,0))) :
  ∀j u,(arr.toList.take n)[j]? = some u→w.cell? ((⟨b,0,none⟩:Addr).add j)=some u:=by
 intro j u hj
 rw [List.getElem?_take] at hj
 split at hj
 ·rw [G9,Nat.zero_add];simp only [World.cell?,hb];simpa using hj
 cases hj
theorem Azz {σ a w O gv N vals fp m y v ys σ'} (h:Ok σ a w O gv N vals fp) (hr:RelL w O (look σ) vals [y] [v]) (hy:yS σ m y=some (ys,σ')) :
  ∃fp' fpY us,Ok σ' a w O gv N vals fp'∧RdL w O (Ay ys) us fpY∧fpY.Nodup∧(∀b∈fpY,Sof fp b∧¬Sof fp' b)∧(∀b,Sof fp' b→Sof fp b) ∧
    (∀z∈ys,z.cells.length=m) ∧ ∃q c,v = .slice q ys.length c∧((ys=[]∧us=[]) ∨ ∃b,q=some b ∧ ∀j u,us[j]? = some u→w.cell? (b.add j)=some u):=by
 unfold yS at hy
 split at hy
 ·rename_i o m' ys'
  split at hy
  case isFalse=>cases hy
  rename_i hm
  cases hy
  subst hm
  cases hr with
  | val hn hr _=>
    obtain ⟨q,c,us,hv,h1,h2,h3⟩:=Att hr (by simpa [V.hasOwn] using hn)
    exact ⟨fp,[],us,h,h1,by simp,by simp,fun _=>id,h2,q,c,hv,h3⟩
 ·cases hy
  cases hr with
  | val hn hr _=>exact ⟨fp,[],[],h,.nil,by simp,by simp,fun _=>id,by simp,none,0,by rw [Aso hr];rfl,.inl ⟨rfl,rfl⟩⟩
 ·rename_i r p
  split at hy
  case h_2=>cases hy
  rename_i o m' ys' hnode
  split at hy
  case isFalse=>cases hy
  rename_i hc
  obtain ⟨rfl,rfl⟩:=hc
  split at hy
  ·rename_i hown
   split at hy
   case h_2=>cases hy
   rename_i U σ1 ht
   cases hy
   have hU:=Aua ht hnode
   subst hU
   obtain ⟨fp',fpV,o1,rV,nV,dV,s1⟩:=Pi h (Wb hr rfl).1 ht
   rcases Yv rV with ⟨rfl,hv,rfl⟩ | ⟨b,cap,arr,e,fpk,hv,hb,hcap,hk,hm,hf,rfl,hO⟩
   ·simp [Ay,A4] at hown
   exact ⟨fp',fpk,_,o1,hf,(List.nodup_cons.1 nV).2,fun q hq=>dV q (by simp [hq]),s1,hm,_,_,hv,.inr ⟨_,rfl,U1 hb⟩⟩
  rename_i hown
  cases hy
  cases hr with
  | @ref _ _ V u _ _ _ hL hs hv _=>
    simp only [B0,hL,hs,Option.some.injEq] at hnode
    subst hnode
    obtain ⟨z,f1,fu,f2,_,hz,hru,_⟩:=ctx p (h.sim.own r V hL) hs
    rw [hv] at hz;cases hz
    rcases Yv hru with ⟨rfl,hv',rfl⟩ | ⟨b,cap,arr,e,fpk,hv',hb,hcap,hk,hm,hf,rfl,hO⟩
    ·exact ⟨fp,[],[],h,.nil,by simp,by simp,fun _=>id,by simp,none,0,hv',.inl ⟨rfl,rfl⟩⟩
    have:fpk=[]:=hf.noOwn (by simpa using hown)
    subst this
    exact ⟨fp,[],_,h,hf,by simp,by simp,fun _=>id,hm,_,_,hv',.inr ⟨_,rfl,U1 hb⟩⟩
 cases hy
def Aww (d m:Nat) (x y:X) (σ:St):Option St:=match yS σ m (Ai σ y) with
 | some (ys,σ1)=>match Ie σ1 (Ai σ1 x) with
   | some (.sl o m' xs,σ2)=>if o=true∧m'=m∧Cj (Ay ys)=true∧xs.length+ys.length≤LIM then some (Ak d (.val (.sl true m (xs++ys))) σ2) else none
   | _=>none
 | none=>none
theorem Ur {P:Program} {w:World} {size n:Nat} {q:Option Addr} {c:Nat} {us:List Value} {ys:List V} (hl:us.length=n*size) (hn:ys.length=n)
  (h:(ys=[]∧us=[]) ∨ ∃b,q=some b ∧ ∀j u,us[j]? = some u→w.cell? (b.add j)=some u) :
  (Builtin.firstCells size n (.slice q n c)).run P w = .ok us.toArray w:=by
 rcases h with ⟨rfl,rfl⟩ | ⟨b,rfl,hc⟩
 ·simp at hn;subst hn
  cases q with
  | none=>simp [Builtin.firstCells]
  | some b=>simp [Builtin.firstCells,loadCells,loadCellsFrom]
 exact run_firstCells_some (P:=P) w size n b n c us hl hc
theorem A38 {P:Program} {o:Oper} {σ σ' a w O gv N vals fp} {d m:Nat} {t e x x' y y'} {fi:TypeInfo} {z:Value} (h:Ok σ a w O gv N vals fp)
  (ho:o.op = .call { callee:= .builtin .append,args := #[x',y'],argTypes := #[t,t] }) (hd:o.dst=some d) (hN:d<N) (hx:Au N x x'=true) (hy:Au N y y'=true)
  (hu:P.underlying t=some (.slice e)) (hi:P.info? e=some fi) (hsz:fi.size=m) (hz:fi.zero=some z) (hzs:z.cells.size=m) (hby:fi.bytes≤1024)
  (hs:Aww d m x y σ=some σ'):Bo P o σ' a w O gv N fp:=by
 simp only [Aww] at hs
 split at hs
 case h_2=>cases hs
 rename_i ys σ1 hY
 obtain ⟨fp1,fpY,us,o1,rY,nY,dY,s1,hmY,q,cy,hvy,hcy⟩:=Azz h (Ap h hy) hY
 have hul:us.length=ys.length*m:=by rw [rY.length,Ed hmY]
 have hfirst : ∀n,n=ys.length→(Builtin.firstCells fi.size n (.slice q n cy)).run P w = .ok us.toArray w:=by
  rintro n rfl;rw [hsz];exact Ur hul rfl hcy
 have hlenof:(Builtin.lenOf (.slice q ys.length cy)).run P w = .ok ys.length w:=by simp [Builtin.lenOf]
 have hexec : ∀r w',(Builtin.append_ #[t,t] o.type #[a.eval x',a.eval y']).run P w = .ok r w'→(execOp a.eval o).run P w = .ok (.value r) w':=by
  intro r w' hrun
  simp [execOp,ho,resolve,invoke,builtin,hrun]
 split at hs
 ·-- onto a slice of one's own
  rename_i oo m' xs σ2 hX
  split at hs
  case isFalse=>cases hs
  rename_i hcond
  obtain ⟨rfl,rfl,hcell,hlim⟩:=hcond
  cases hs
  simp only [LIM] at hlim
  obtain ⟨fp2,fpX,o2,rX,nX,dX,s2⟩:=My o1 (Ap o1 hx) hX
  rcases Yv rX with ⟨rfl,hvx,efx⟩ | ⟨b,cap,arr,e',fpk,hvx,hb,hcap,hk,hmX,hf,efx,hO⟩
  ·-- onto nil
   simp only [List.nil_append]
   by_cases he:ys=[]
   ·subst he
    have hus:us=[]:=by simpa using hul
    subst hus
    obtain ⟨fp3,o3,s3⟩:=o2.put_own hN (x:= .sl true m' []) (v:= .slice none 0 0) (fpn:=[]) (.leaf (.nils1 m') .nil) (by simp) (by simp)
    have hf:=hfirst 0 (by simp)
    simp only [List.length_nil] at hvy hlenof
    refine ⟨_,w,O,_,fp3,.inl (hexec (.slice none 0 0) w ?_),by rw [hd];exact o3,(Mv.refl w O _).shrink fun q hq=>s1 q (s2 q ((s3 q hq).resolve_right (by simp)))⟩
    rw [hvx,hvy]
    simp [Builtin.append_,run_underlying hu,Go.sizeOf,typeInfo,hi,hlenof,hf]
   obtain ⟨ab,rfl,hcy'⟩:=hcy.resolve_left (fun h=>he h.1)
   have hpos:0<ys.length:=List.length_pos_iff.2 he
   have hlim':ys.length≤4294967296:=by simpa using hlim
   have hrun:=run_append_nil (P:=P) w t o.type e fi z hu hi hz ab ys.length cy us (by rw [hul,hsz]) hcy' hpos (by omega) (by
    calc ys.length*fi.bytes≤4294967296*1024:=Nat.mul_le_mul hlim' hby
     _≤281474976710656:=by omega)
   rw [←hvx,←hvy] at hrun
   have hcapge:=grownCap_ge w ys.length 0 e
   have hh:=Hdr.sl true m' ys w.heap.size 0 (grownCap w ys.length 0 e) hmY hcapge
   refine Wt (w':=w.drew.alloc (.cells (us.toArray++Builtin.zeroCells z.cells (grownCap w ys.length 0 e-ys.length)) e)) (fpV:=fpY) o2 hd hN (fun q hq=>s1 q (s2 q hq)) (fun q hq=>⟨(dY q hq).1,fun h2=>(dY q hq).2 (s2 q h2)⟩) nY rfl rfl rfl rfl hh ?_ ?_ (hexec _ _ hrun)
   ·simp only [Array.size_append,List.size_toArray,hul,size_zeroCells,hzs,←Nat.add_mul]
    exact Nat.mul_le_mul_right _ (by omega)
   have hl1:us.length=(Ay ys).length:=by rw [hul,Ed hmY]
   simp only [Array.toList_append]
   rw [←hl1,List.take_left]
   exact rY
  subst efx
  have hbk:=(List.nodup_cons.1 nX).1
  have ndk:=(List.nodup_cons.1 nX).2
  have hxl:(Ay xs).length=xs.length*m':=Ed hmX
  have h1:=V8 rY hcell
  have hflat:(Ay (xs++ys)).length=(xs.length+ys.length)*m':=by rw [E3,List.length_append,hxl,Ed hmY,Nat.add_mul]
  have hmXY : ∀z∈xs++ys,z.cells.length=m':=fun z hz=>(List.mem_append.1 hz).elim (hmX z) (hmY z)
  have hXYd : ∀q∈fpk,q∉fpY:=fun q hq hq'=>(dY q hq').2 (dX q (by simp [hq])).1
  have hbY:b∉fpY:=fun hq=>(dY b hq).2 (dX b (by simp)).1
  have hYfp2 : ∀q∈fpY,¬Sof fp2 q:=fun q hq h2=>(dY q hq).2 (s2 q h2)
  by_cases hroom:xs.length+ys.length≤cap
  ·-- in place
   have hfit:xs.length*fi.size+us.length≤arr.size:=by
    rw [hsz,hul,←Nat.add_mul]
    exact Nat.le_trans (Nat.mul_le_mul_right _ hroom) hk
   have hrun:=Ue (P:=P) w t o.type e e' fi hu hi b xs.length cap arr hb (.slice q ys.length cy) ys.length us (fun _ _=>trivial) hlenof (hfirst _ rfl) h1 hroom hfit
   rw [←hvx,←hvy] at hrun
   let arr':Array Value:=(arr.toList.take (xs.length*fi.size)++us++arr.toList.drop (xs.length*fi.size+us.length)).toArray
   have hheap:(w.setRow b arr').heap[b]? = some (.cells arr' e' (0,0)):=setRow_heap w b arr arr' e' (0,0) hb
   have hother : ∀q,q≠b→(w.setRow b arr').heap[q]? = w.heap[q]? := fun q hq=>setRow_other w b q arr' hq
   have hstill:Iq w O (w.setRow b arr') O:=fun q hq _=>⟨hother q (fun e=>hq (e▸hO)),hq⟩
   have hsz':arr'.size=arr.size:=by simp [arr'];omega
   have frm : ∀ {xs vs f},RdL w O xs vs f→b∉f→RdL (w.setRow b arr') O xs vs f:=fun hr hnb=>
    hr.frame (fun q hq=>⟨hother q (fun e=>hnb (e▸hq)),(hr.fpO q hq).1⟩) hstill
   have htake:arr'.toList.take (Ay (xs++ys)).length=arr.toList.take (Ay xs).length++us:=by
    have hl1:(arr.toList.take (xs.length*m')++us).length=(Ay (xs++ys)).length:=by
     rw [hflat,List.length_append,List.length_take,hul,Nat.add_mul]
     simp;rw [hsz,hul] at hfit;omega
    simp only [arr',hsz,hxl]
    rw [←hl1,List.take_left]
   have hread:RdL (w.setRow b arr') O [.sl true m' (xs++ys)] [.slice (some ⟨b,0,none⟩) (xs.length+ys.length) cap] (b::((fpk++fpY)++[])):=by
    have hh:=Hdr.sl true m' (xs++ys) b 0 cap hmXY (by simpa using hroom)
    simp only [List.length_append] at hh
    refine .oblk hh hheap hO (by omega) ?_ .nil
    rw [htake,E3]
    exact (frm hf hbk).append (frm rY hbY)
   simp only [List.append_nil] at hread
   have o3:Ok σ2 a (w.setRow b arr') O gv N vals fp2:=o2.world hstill fun q hq=>by
    have hqb:q≠b:=by rintro rfl;exact (dX _ (by simp)).2 hq
    obtain ⟨s,hs⟩:=hq
    exact ⟨hother q hqb,(o2.sim.fpO s q hs).1⟩
   obtain ⟨fp3,o4,s4⟩:=o3.put_own hN hread (by
    refine List.nodup_cons.2 ⟨by simp [hbk,hbY],List.nodup_append.2 ⟨ndk,nY,?_⟩⟩
    rintro q hq q' hq' rfl;exact hXYd q hq hq') (by
    intro q hq
    simp only [List.mem_cons,List.mem_append] at hq
    rcases hq with rfl | hq | hq
    ·exact (dX _ (by simp)).2
    ·exact (dX q (by simp [hq])).2
    ·exact hYfp2 q hq)
   refine ⟨_,_,O,_,fp3,.inl (hexec _ _ hrun),by rw [hd];exact o4,⟨rfl,rfl,rfl,by simp [World.setRow],?_,?_⟩⟩
   ·intro q _ hq
    exact ⟨hother q (by rintro rfl;exact hq (s1 _ (dX _ (by simp)).1)),.rfl⟩
   intro q hq
   left
   rcases s4 q hq with h | h
   ·exact s1 q (s2 q h)
   simp only [List.mem_cons,List.mem_append] at h
   rcases h with rfl | h | h
   ·exact s1 _ (dX _ (by simp)).1
   ·exact s1 _ (dX q (by simp [h])).1
   exact (dY q h).1
  have holds : ∀j u,(arr.toList.take (Ay xs).length)[j]? = some u→w.cell? ((⟨b,0,none⟩:Addr).add j)=some u:=U1 hb
  have hne:ys≠[]:=by rintro rfl;simp at hroom;omega
  obtain ⟨ab,rfl,hcy'⟩:=hcy.resolve_left (fun h=>hne h.1)
  have hlt:(arr.toList.take (Ay xs).length).length=xs.length*fi.size:=by
   rw [hf.length,hxl,hsz]
  have hrun:=run_append_grow (P:=P) w t o.type e fi z hu hi hz ⟨b,0,none⟩ xs.length cap _ hlt holds ab ys.length cy us (by rw [hul,hsz]) hcy' (by omega) (by omega)
   (growslice_fits (by omega) (by
    calc (xs.length+ys.length)*fi.bytes≤4294967296*1024:=Nat.mul_le_mul hlim hby
     _≤140737488355328:=by omega))
  rw [←hvx,←hvy] at hrun
  have hcapge:=grownCap_ge w (xs.length+ys.length) cap e
  have hh:=Hdr.sl true m' (xs++ys) w.heap.size 0 (grownCap w (xs.length+ys.length) cap e) hmXY (by simpa using hcapge)
  simp only [List.length_append] at hh
  have hlist : ∀zs:Array Value,((arr.toList.take (Ay xs).length).toArray++us.toArray++zs).toList.take (Ay (xs++ys)).length=arr.toList.take (Ay xs).length++us:=by
   intro zs
   have hl1:(arr.toList.take (Ay xs).length++us).length=(Ay (xs++ys)).length:=by
    rw [List.length_append,hlt,hul,hflat,hsz,Nat.add_mul]
   simp only [Array.toList_append,List.append_assoc]
   rw [←List.append_assoc,←hl1,List.take_left]
  refine Wt (w':=w.drew.alloc (.cells ((arr.toList.take (Ay xs).length).toArray++us.toArray++Builtin.zeroCells z.cells (grownCap w (xs.length+ys.length) cap e-(xs.length+ys.length))) e)) (fpV:=fpk++fpY) o2 hd hN (fun q hq=>s1 q (s2 q hq)) ?_ (List.nodup_append.2 ⟨ndk,nY,?_⟩) rfl rfl rfl rfl hh ?_ ?_ (hexec _ _ hrun)
  ·intro q hq
   rcases List.mem_append.1 hq with hq | hq
   ·exact ⟨s1 _ (dX q (by simp [hq])).1,(dX q (by simp [hq])).2⟩
   exact ⟨(dY q hq).1,hYfp2 q hq⟩
  ·rintro q hq q' hq' rfl;exact hXYd q hq hq'
  ·simp only [Array.size_append,List.size_toArray,hlt,hul,hsz,size_zeroCells,hzs,←Nat.add_mul]
   exact Nat.mul_le_mul_right _ (by omega)
  rw [hlist,E3]
  exact hf.append rY
 cases hs
noncomputable def A1w (d m:Nat) (x y:A) (e:Nat) (σ:St):Option St:=match yS σ m y with
 | some (ys,σ1)=>match x,look σ1 e with
   | .val (.raw tv),.rfv tv' r (c::p)=>match Classical.propDecidable (tv=tv') with
     | .isTrue _=>match look (Ak e .top σ1) r with
       | .val T=>match sub (c::p) T with
         | some (.sl true m' xs)=>match upd (c::p) T .dead with
           | some T0=>match upd (c::p) T0 (.sl false m xs) with
             | some T'=>if m'=m∧Cj (Ay ys)=true∧A4 (Ay ys)=false∧A4 (Ay xs)=false∧xs.length+ys.length≤LIM then
               some (Ak d (.val (.sl false m (xs++ys))) (turnP r T' (c::p) (turnP r T0 (c::p) (Ak e .top σ1)))) else none
             | none=>none
           | none=>none
         | _=>none
       | _=>none
     | .isFalse _=>none
   | _,_=>none
 | none=>none
theorem Aoi {w O tv v fq} (h:RdL w O [.raw tv] [v] fq):v=tv:=by
 cases h with
 | leaf hl _=>cases hl;rfl
 | grp hg _ _=>cases hg
 | fblk hh _ _ _ _=>cases hh
 | oblk hh _ _ _ _ _=>cases hh
theorem Aii {P:Program} {o:Oper} {a w w' gv N vals} {O O':Nat→Prop} {fp fp2:Nat→List Nat} {σ2:St} {d m r c:Nat} {p:List Nat} {T0 T':V} {xs zs:List V} {tv rv:Value}
  (o2:Ok σ2 a w O gv N vals fp2) (hd:o.dst=some d) (hN:d<N) (hs : ∀b,Sof fp2 b→Sof fp b) (hL:look σ2 r = .val T0) (hsub:sub (c::p) T0=some .dead) (hx:B5 w (c::p) (vals r)=some tv)
  (hT':upd (c::p) T0 (.sl false m xs)=some T') (hos:w'.os=w.os) (htape:w'.tape=w.tape) (hout:w'.output=w.output) (hsize:w.heap.size≤w'.heap.size)
  (hstill:Iq w O w' O') (hown : ∀b,Sof fp2 b→w'.heap[b]? = w.heap[b]? ∧ O' b) (hsame : ∀b,b<w.heap.size→¬Sof fp b→w'.heap[b]? = w.heap[b]? ∧ (O' b↔O b))
  (rOld:RdL w' O' [.sl false m xs] [tv] []) (rNew:RdL w' O' [.sl false m zs] [rv] []) (hrun:(execOp a.eval o).run P w = .ok (.value rv) w') :
  Bo P o (Ak d (.val (.sl false m zs)) (turnP r T' (c::p) σ2)) a w O gv N fp:=by
 have o3:Ok σ2 a w' O' gv N vals fp2:=o2.world hstill hown
 have hx':B5 w' (c::p) (vals r)=some tv:=by
  rw [J4 (c::p) (o2.sim.own r T0 hL) hsub fun b hb=>(hown b ⟨r,hb⟩).1];exact hx
 obtain ⟨fp4,o4,s4⟩:=Ad1 o3 hL hsub rfl hx' rOld (by simp) (by simp) hT'
 obtain ⟨fp5,o5,s5⟩:=o4.put_own hN rNew (by simp) (by simp)
 refine ⟨rv,w',O',_,fp5,.inl hrun,by rw [hd];exact o5,⟨hos,htape,hout,hsize,hsame,?_⟩⟩
 intro b hb
 rcases s5 b hb with h1 | h1
 ·rcases s4 b h1 with h2 | h2
  ·exact .inl (hs b h2)
  cases h2
 cases h1
theorem A4n {P:Program} {o:Oper} {σ σ' a w O gv N vals fp} {d m:Nat} {t e x x' y y'} {ef:Nat} {fi:TypeInfo} {z:Value} (h:Ok σ a w O gv N vals fp)
  (ho:o.op = .call { callee:= .builtin .append,args := #[x',y'],argTypes := #[t,t] }) (hd:o.dst=some d) (hN:d<N) (hx:Au N x x'=true) (hy:Au N y y'=true)
  (hu:P.underlying t=some (.slice e)) (hi:P.info? e=some fi) (hsz:fi.size=m) (hz:fi.zero=some z) (hzs:z.cells.size=m) (hby:fi.bytes≤1024)
  (hs:A1w d m (Ai σ x) (Ai σ y) ef σ=some σ'):Bo P o σ' a w O gv N fp:=by
 unfold A1w at hs
 split at hs
 case h_2=>cases hs
 rename_i ys σ1 hY
 split at hs
 case h_2=>cases hs
 rename_i tv tv' r c p hX hE
 split at hs
 case h_2=>cases hs
 rename_i etv _
 subst etv
 split at hs
 case h_2=>cases hs
 rename_i T hT
 split at hs
 case h_2=>cases hs
 rename_i m' xs hsub
 split at hs
 case h_2=>cases hs
 rename_i T0 hT0
 split at hs
 case h_2=>cases hs
 rename_i T' hT'
 split at hs
 case isFalse=>cases hs
 rename_i hcond
 obtain ⟨rfl,hcell,hyo,hxo,hlim⟩:=hcond
 cases hs
 simp only [LIM] at hlim
 obtain ⟨fp1,fpY,us,o1,rY,nY,dY,s1,hmY,q,cy,hvy,hcy⟩:=Azz h (Ap h hy) hY
 have e0:fpY=[]:=rY.noOwn hyo
 subst e0
 have hul:us.length=ys.length*m':=by rw [rY.length,Ed hmY]
 have hfirst : ∀n,n=ys.length→(Builtin.firstCells fi.size n (.slice q n cy)).run P w = .ok us.toArray w:=by
  rintro n rfl;rw [hsz];exact Ur hul rfl hcy
 have hlenof:(Builtin.lenOf (.slice q ys.length cy)).run P w = .ok ys.length w:=by simp [Builtin.lenOf]
 have hexec : ∀r w',(Builtin.append_ #[t,t] o.type #[a.eval x',a.eval y']).run P w = .ok r w'→(execOp a.eval o).run P w = .ok (.value r) w':=by
  intro r w' hrun
  simp [execOp,ho,resolve,invoke,builtin,hrun]
 have hvx:a.eval x'=tv:=by
  have hr:=Ap h hx
  rw [hX] at hr
  cases hr with
  | val _ hr _=>exact Aoi hr
 have hv:B5 w (c::p) (vals r)=some tv:=by
  have hr:=o1.sim.rel ef (by simp [hE])
  rw [hE] at hr
  cases hr with
  | rfv _ _ hv _=>exact hv
 obtain ⟨fp0,o0,s0⟩:=Lc (s:=ef) o1 (x:= .top) (.top .nil)
 obtain ⟨fp2,fpX,o2,rX,nX,dX,s2⟩:=Z6 o0 hT hsub hv (.leaf (.dead _) .nil) hT0
 have hL2:look (turnP r T0 (c::p) (Ak ef .top σ1)) r = .val T0:=by rw [Hn hT];simp
 have hsub2:=E0 (c::p) hsub hT0
 have hs2 : ∀b,Sof fp2 b→Sof fp b:=fun b hb=>s1 b (s0 b (s2 b hb))
 have hfit2 : ∀b,Sof fp2 b→O b∧b<w.heap.size:=fun b ⟨s,hs⟩=>o2.sim.fpO s b hs
 rcases Yv rX with ⟨rfl,rfl,efx⟩ | ⟨b,cap,arr,e',fpk,hvt,hb,hcap,hk,hmX,hf,efx,hO⟩
 ·-- onto nil
  by_cases he:ys=[]
  ·subst he
   have hus:us=[]:=by simpa using hul
   subst hus
   have hf:=hfirst 0 (by simp)
   simp only [List.length_nil] at hvy hlenof
   refine Aii (rv:= .slice none 0 0) (w':=w) (O':=O) o2 hd hN hs2 hL2 hsub2 hv hT' rfl rfl rfl (Nat.le_refl _) (fun q hq _=>⟨rfl,hq⟩) (fun b hb=>⟨rfl,(hfit2 b hb).1⟩) (fun _ _ _=>⟨rfl,.rfl⟩)
    (.leaf (.nils _) .nil) (.leaf (.nils _) .nil) (hexec _ _ ?_)
   rw [hvx,hvy]
   simp [Builtin.append_,run_underlying hu,Go.sizeOf,typeInfo,hi,hlenof,hf]
  obtain ⟨ab,rfl,hcy'⟩:=hcy.resolve_left (fun h=>he h.1)
  have hpos:0<ys.length:=List.length_pos_iff.2 he
  have hlim':ys.length≤4294967296:=by simpa using hlim
  have hrun:=run_append_nil (P:=P) w t o.type e fi z hu hi hz ab ys.length cy us (by rw [hul,hsz]) hcy' hpos (by omega) (by
   calc ys.length*fi.bytes≤4294967296*1024:=Nat.mul_le_mul hlim' hby
    _≤281474976710656:=by omega)
  rw [←hvx,←hvy] at hrun
  have hcapge:=grownCap_ge w ys.length 0 e
  have hh:=Hdr.sl false m' ys w.heap.size 0 (grownCap w ys.length 0 e) hmY hcapge
  let arr':Array Value:=us.toArray++Builtin.zeroCells z.cells (grownCap w ys.length 0 e-ys.length)
  let w':World:=w.drew.alloc (.cells arr' e)
  have hwh:w'.heap=w.heap.push (.cells arr' e):=rfl
  have hold : ∀q,q<w.heap.size→w'.heap[q]? = w.heap[q]? := fun q hq=>by rw [hwh];exact Om w _ q hq
  have hst:Iq w O w' (fun q=>O q∧q≠w.heap.size):=fun q hq hlt=>⟨hold q hlt,fun hh=>hq hh.1⟩
  have hblk:w'.heap[w.heap.size]? = some (.cells arr' e (0,0)):=by rw [hwh];simp
  refine Aii (rv:= .slice (some ⟨w.heap.size,0,none⟩) ys.length (grownCap w ys.length 0 e)) (w':=w') (O':=fun q=>O q∧q≠w.heap.size) o2 hd hN hs2 hL2 hsub2 hv hT' rfl rfl rfl (by rw [hwh];simp) hst
   (fun q hq=>⟨hold q (hfit2 q hq).2,(hfit2 q hq).1,Nat.ne_of_lt (hfit2 q hq).2⟩) (fun q hq _=>⟨hold q hq,fun hh=>hh.1,fun hh=>⟨hh,by omega⟩⟩) (.leaf (.nils _) .nil) ?_ (hexec _ _ hrun)
  refine .fblk hh ?_ ⟨.inr fun hh=>hh.2 rfl,hyo⟩ (rY.frame (by simp) hst) .nil
  intro i hi'
  simp only [World.cell?,hblk,Nat.zero_add]
  rw [←Array.getElem?_toList]
  simp only [arr',Array.toList_append]
  rw [List.getElem?_append_left (by simpa using hi')]
  simp
 have hbk:fpk=[]:=hf.noOwn hxo
 subst hbk
 subst efx
 have hxl:(Ay xs).length=xs.length*m':=Ed hmX
 have h1:=V8 rY hcell
 have hflat:(Ay (xs++ys)).length=(xs.length+ys.length)*m':=by rw [E3,List.length_append,hxl,Ed hmY,Nat.add_mul]
 have hmXY : ∀z∈xs++ys,z.cells.length=m':=fun z hz=>(List.mem_append.1 hz).elim (hmX z) (hmY z)
 have hb2:¬Sof fp2 b:=(dX b (by simp)).2
 have hbS:Sof fp b:=s1 b (s0 b (dX b (by simp)).1)
 have hblt:b<w.heap.size:=W9 hb
 have hcell0 : ∀i,i<(arr.toList.take (Ay xs).length).length→w.cell? ⟨b,0+i,none⟩=(arr.toList.take (Ay xs).length)[i]? := by
  intro i hi'
  simp [World.cell?,hb]
  simp at hi'
  rw [List.getElem?_take,if_pos (by omega),Array.getElem?_toList]
 have hxyo:A4 (Ay (xs++ys))=false:=by rw [E3,F8,hxo,hyo];rfl
 by_cases hroom:xs.length+ys.length≤cap
 ·-- in place
  have hfit:xs.length*fi.size+us.length≤arr.size:=by
   rw [hsz,hul,←Nat.add_mul]
   exact Nat.le_trans (Nat.mul_le_mul_right _ hroom) hk
  have hrun:=Ue (P:=P) w t o.type e e' fi hu hi b xs.length cap arr hb (.slice q ys.length cy) ys.length us (fun _ _=>trivial) hlenof (hfirst _ rfl) h1 hroom hfit
  rw [←hvt,←hvx,←hvy] at hrun
  let arr':Array Value:=(arr.toList.take (xs.length*fi.size)++us++arr.toList.drop (xs.length*fi.size+us.length)).toArray
  have hheap:(w.setRow b arr').heap[b]? = some (.cells arr' e' (0,0)):=setRow_heap w b arr arr' e' (0,0) hb
  have hother : ∀q,q≠b→(w.setRow b arr').heap[q]? = w.heap[q]? := fun q hq=>setRow_other w b q arr' hq
  have hst:Iq w O (w.setRow b arr') (fun q=>O q∧q≠b):=fun q hq _=>⟨hother q (fun e=>hq (e▸hO)),fun hh=>hq hh.1⟩
  have harr : ∀i,i<(Ay xs).length→arr'[i]? = arr[i]? := by
   intro i hi'
   simp only [arr',List.getElem?_toArray,List.append_assoc]
   have hle:xs.length*m'≤arr.size:=Nat.le_trans (Nat.mul_le_mul_right m' hcap) hk
   rw [List.getElem?_append_left (by rw [List.length_take,hsz,show arr.toList.length=arr.size from Array.length_toList];omega),List.getElem?_take,if_pos (by rw [hsz];omega),Array.getElem?_toList]
  have htake : ∀i,i<(arr.toList.take (Ay xs).length++us).length→arr'[i]? = (arr.toList.take (Ay xs).length++us)[i]? := by
   intro i hi'
   simp only [arr',List.getElem?_toArray]
   rw [show xs.length*fi.size=(Ay xs).length from by rw [hsz,hxl]]
   rw [List.getElem?_append_left hi']
  have rold : ∀ {us' fs},RdL w O (Ay xs) us' fs→fs=[]→RdL (w.setRow b arr') (fun q=>O q∧q≠b) (Ay xs) us' []:=fun hr e=>by subst e;exact hr.frame (by simp) hst
  refine Aii (w':=w.setRow b arr') (O':=fun q=>O q∧q≠b) o2 hd hN hs2 hL2 hsub2 hv hT' rfl rfl rfl (by simp [World.setRow]) hst ?_ ?_ ?_ ?_ (hexec _ _ hrun)
  ·intro q hq
   have hqb:q≠b:=by rintro rfl;exact hb2 hq
   exact ⟨hother q hqb,(hfit2 q hq).1,hqb⟩
  ·intro q _ hq
   have hqb:q≠b:=by rintro rfl;exact hq hbS
   exact ⟨hother q hqb,fun hh=>hh.1,fun hh=>⟨hh,hqb⟩⟩
  ·rw [hvt]
   refine .fblk (.sl false m' xs b 0 cap hmX hcap) ?_ ⟨.inr fun hh=>hh.2 rfl,hxo⟩ (rold hf rfl) .nil
   intro i hi'
   rw [←hcell0 i hi']
   have hi2:i<(Ay xs).length:=by rw [List.length_take] at hi';omega
   simp only [World.cell?,hheap,hb,Nat.zero_add]
   exact harr i hi2
  have hh:=Hdr.sl false m' (xs++ys) b 0 cap hmXY (by simpa using hroom)
  simp only [List.length_append] at hh
  refine .fblk hh (vch:=arr.toList.take (Ay xs).length++us) ?_ ⟨.inr fun hh=>hh.2 rfl,hxyo⟩ ?_ .nil
  ·intro i hi'
   simp only [World.cell?,hheap,Nat.zero_add]
   exact htake i hi'
  rw [E3]
  simpa using (rold hf rfl).append (rY.frame (by simp) hst)
 have holds : ∀j u,(arr.toList.take (Ay xs).length)[j]? = some u→w.cell? ((⟨b,0,none⟩:Addr).add j)=some u:=U1 hb
 have hne:ys≠[]:=by rintro rfl;simp at hroom;omega
 obtain ⟨ab,rfl,hcy'⟩:=hcy.resolve_left (fun h=>hne h.1)
 have hlt:(arr.toList.take (Ay xs).length).length=xs.length*fi.size:=by
  rw [hf.length,hxl,hsz]
 have hrun:=run_append_grow (P:=P) w t o.type e fi z hu hi hz ⟨b,0,none⟩ xs.length cap _ hlt holds ab ys.length cy us (by rw [hul,hsz]) hcy' (by omega) (by omega)
  (growslice_fits (by omega) (by
   calc (xs.length+ys.length)*fi.bytes≤4294967296*1024:=Nat.mul_le_mul hlim hby
    _≤140737488355328:=by omega))
 rw [←hvt,←hvx,←hvy] at hrun
 have hcapge:=grownCap_ge w (xs.length+ys.length) cap e
 let arr':Array Value:=(arr.toList.take (Ay xs).length).toArray++us.toArray++Builtin.zeroCells z.cells (grownCap w (xs.length+ys.length) cap e-(xs.length+ys.length))
 let w':World:=w.drew.alloc (.cells arr' e)
 have hwh:w'.heap=w.heap.push (.cells arr' e):=rfl
 have hold : ∀q,q<w.heap.size→w'.heap[q]? = w.heap[q]? := fun q hq=>by rw [hwh];exact Om w _ q hq
 have hst:Iq w O w' (fun q=>O q∧q≠b∧q≠w.heap.size):=fun q hq hlt=>⟨hold q hlt,fun hh=>hq hh.1⟩
 have hblk:w'.heap[w.heap.size]? = some (.cells arr' e (0,0)):=by rw [hwh];simp
 have rold : ∀ {us' fs},RdL w O (Ay xs) us' fs→fs=[]→RdL w' (fun q=>O q∧q≠b∧q≠w.heap.size) (Ay xs) us' []:=fun hr e=>by subst e;exact hr.frame (by simp) hst
 refine Aii (w':=w') (O':=fun q=>O q∧q≠b∧q≠w.heap.size) o2 hd hN hs2 hL2 hsub2 hv hT' rfl rfl rfl (by rw [hwh];simp) hst ?_ ?_ ?_ ?_ (hexec _ _ hrun)
 ·intro q hq
  have hqb:q≠b:=by rintro rfl;exact hb2 hq
  exact ⟨hold q (hfit2 q hq).2,(hfit2 q hq).1,hqb,Nat.ne_of_lt (hfit2 q hq).2⟩
 ·intro q hlt' hq
  have hqb:q≠b:=by rintro rfl;exact hq hbS
  exact ⟨hold q hlt',fun hh=>hh.1,fun hh=>⟨hh,hqb,by omega⟩⟩
 ·rw [hvt]
  refine .fblk (.sl false m' xs b 0 cap hmX hcap) ?_ ⟨.inr fun hh=>hh.2.1 rfl,hxo⟩ (rold hf rfl) .nil
  intro i hi'
  rw [Afu (hold b hblt)]
  exact hcell0 i hi'
 have hh:=Hdr.sl false m' (xs++ys) w.heap.size 0 (grownCap w (xs.length+ys.length) cap e) hmXY (by simpa using hcapge)
 simp only [List.length_append] at hh
 refine .fblk hh (vch:=arr.toList.take (Ay xs).length++us) ?_ ⟨.inr fun hh=>hh.2.2 rfl,hxyo⟩ ?_ .nil
 ·intro i hi'
  simp only [World.cell?,hblk,Nat.zero_add]
  rw [←Array.getElem?_toList]
  simp only [arr',Array.toList_append]
  rw [List.getElem?_append_left hi']
  simp
 rw [E3]
 simpa using (rold hf rfl).append (rY.frame (by simp) hst)
def A0r (d m r s e:Nat) (tv tv2:Value) (zs:List V) (σ:St):St:=Ak e (.rfv tv2 d []) (Ak d (.val (.sl true m zs)) (Ak s (.val (.raw tv)) (Ak r (.val (.raw tv)) σ)))
theorem A3v {P:Program} {o:Oper} {σ σ1 a w O gv N vals fp} {d m r s ef:Nat} {t e x x' y y'} {xs ys:List V} {fi:TypeInfo} {z:Value} (h:Ok σ a w O gv N vals fp)
  (ho:o.op = .call { callee:= .builtin .append,args := #[x',y'],argTypes := #[t,t] }) (hd:o.dst=some d) (hN:d<N) (hx:Au N x x'=true) (hy:Au N y y'=true)
  (hu:P.underlying t=some (.slice e)) (hi:P.info? e=some fi) (hsz:fi.size=m) (hz:fi.zero=some z) (hzs:z.cells.size=m) (hby:fi.bytes≤1024)
  (hY:yS σ m (Ai σ y)=some (ys,σ1)) (hX:Ai σ1 x = .ref r []) (hS:look σ1 s = .ref r []) (hL:look σ1 r = .val (.sl true m xs)) (hcell:Cj (Ay ys)=true) (hyo:A4 (Ay ys)=false)
  (hxo:A4 (Ay xs)=false) (hlim:xs.length+ys.length≤LIM) :
  Bo P o (Ak d (.val (.sl true m (xs++ys))) σ1) a w O gv N fp ∨
  ∃b c,Bo P o (A0r d m r s ef (.slice (some ⟨b,0,none⟩) xs.length c) (.slice (some ⟨b,0,none⟩) (xs.length+ys.length) c) (xs++ys) σ1) a w O gv N fp:=by
 simp only [LIM] at hlim
 obtain ⟨fp1,fpY,us,o1,rY,nY,dY,s1,hmY,q,cy,hvy,hcy⟩:=Azz h (Ap h hy) hY
 have e0:fpY=[]:=rY.noOwn hyo
 subst e0
 have hul:us.length=ys.length*m:=by rw [rY.length,Ed hmY]
 have hfirst : ∀n,n=ys.length→(Builtin.firstCells fi.size n (.slice q n cy)).run P w = .ok us.toArray w:=by
  rintro n rfl;rw [hsz];exact Ur hul rfl hcy
 have hlenof:(Builtin.lenOf (.slice q ys.length cy)).run P w = .ok ys.length w:=by simp [Builtin.lenOf]
 have hexec : ∀r w',(Builtin.append_ #[t,t] o.type #[a.eval x',a.eval y']).run P w = .ok r w'→(execOp a.eval o).run P w = .ok (.value r) w':=by
  intro r w' hrun
  simp [execOp,ho,resolve,invoke,builtin,hrun]
 have hrx:=Ap o1 hx
 rw [hX] at hrx
 have hvx0:vals r=a.eval x':=by
  cases hrx with
  | ref _ _ hv _=>simpa [B5] using hv
 have hvs:vals s=vals r:=by
  have hr:=o1.sim.rel s (by simp [hS])
  rw [hS] at hr
  generalize vals s=q at hr
  cases hr with
  | ref _ _ hv _=>simp [B5] at hv;exact hv.symm
 have rX:=o1.sim.own r _ hL
 rcases Yv rX with ⟨rfl,hvt,efx⟩ | ⟨b,cap,arr,e',fpk,hvt,hb,hcap,hk,hmX,hf,efx,hO⟩
 ·-- onto nil
  left
  have hvx:a.eval x' = .slice none 0 0:=by rw [←hvx0,hvt]
  simp only [List.nil_append]
  by_cases he:ys=[]
  ·subst he
   have hus:us=[]:=by simpa using hul
   subst hus
   obtain ⟨fp3,o3,s3⟩:=o1.put_own hN (x:= .sl true m []) (v:= .slice none 0 0) (fpn:=[]) (.leaf (.nils1 m) .nil) (by simp) (by simp)
   have hf:=hfirst 0 (by simp)
   simp only [List.length_nil] at hvy hlenof
   refine ⟨_,w,O,_,fp3,.inl (hexec (.slice none 0 0) w ?_),by rw [hd];exact o3,(Mv.refl w O _).shrink fun q hq=>s1 q ((s3 q hq).resolve_right (by simp))⟩
   rw [hvx,hvy]
   simp [Builtin.append_,run_underlying hu,Go.sizeOf,typeInfo,hi,hlenof,hf]
  obtain ⟨ab,rfl,hcy'⟩:=hcy.resolve_left (fun h=>he h.1)
  have hpos:0<ys.length:=List.length_pos_iff.2 he
  have hlim':ys.length≤4294967296:=by simpa using hlim
  have hrun:=run_append_nil (P:=P) w t o.type e fi z hu hi hz ab ys.length cy us (by rw [hul,hsz]) hcy' hpos (by omega) (by
   calc ys.length*fi.bytes≤4294967296*1024:=Nat.mul_le_mul hlim' hby
    _≤281474976710656:=by omega)
  rw [←hvx,←hvy] at hrun
  have hcapge:=grownCap_ge w ys.length 0 e
  have hh:=Hdr.sl true m ys w.heap.size 0 (grownCap w ys.length 0 e) hmY hcapge
  refine Wt (w':=w.drew.alloc (.cells (us.toArray++Builtin.zeroCells z.cells (grownCap w ys.length 0 e-ys.length)) e)) (fpV:=[]) o1 hd hN s1 (by simp) (by simp) rfl rfl rfl rfl hh ?_ ?_ (hexec _ _ hrun)
  ·simp only [Array.size_append,List.size_toArray,hul,size_zeroCells,hzs,←Nat.add_mul]
   exact Nat.mul_le_mul_right _ (by omega)
  have hl1:us.length=(Ay ys).length:=by rw [hul,Ed hmY]
  simp only [Array.toList_append]
  rw [←hl1,List.take_left]
  exact rY
 have hvx:a.eval x' = .slice (some ⟨b,0,none⟩) xs.length cap:=by rw [←hvx0,hvt]
 have hbk:fpk=[]:=hf.noOwn hxo
 subst hbk
 have hxl:(Ay xs).length=xs.length*m:=Ed hmX
 have h1:=V8 rY hcell
 have hflat:(Ay (xs++ys)).length=(xs.length+ys.length)*m:=by rw [E3,List.length_append,hxl,Ed hmY,Nat.add_mul]
 have hmXY : ∀z∈xs++ys,z.cells.length=m:=fun z hz=>(List.mem_append.1 hz).elim (hmX z) (hmY z)
 by_cases hroom:xs.length+ys.length≤cap
 ·-- in place
  right
  refine ⟨b,cap,?_⟩
  have hfit:xs.length*fi.size+us.length≤arr.size:=by
   rw [hsz,hul,←Nat.add_mul]
   exact Nat.le_trans (Nat.mul_le_mul_right _ hroom) hk
  have hrun:=Ue (P:=P) w t o.type e e' fi hu hi b xs.length cap arr hb (.slice q ys.length cy) ys.length us (fun _ _=>trivial) hlenof (hfirst _ rfl) h1 hroom hfit
  rw [←hvx,←hvy] at hrun
  let arr':Array Value:=(arr.toList.take (xs.length*fi.size)++us++arr.toList.drop (xs.length*fi.size+us.length)).toArray
  have hheap:(w.setRow b arr').heap[b]? = some (.cells arr' e' (0,0)):=setRow_heap w b arr arr' e' (0,0) hb
  have hother : ∀q,q≠b→(w.setRow b arr').heap[q]? = w.heap[q]? := fun q hq=>setRow_other w b q arr' hq
  have hstill:Iq w O (w.setRow b arr') O:=fun q hq _=>⟨hother q (fun e=>hq (e▸hO)),hq⟩
  have hsz':arr'.size=arr.size:=by simp [arr'];omega
  have frm : ∀ {xs vs f},RdL w O xs vs f→b∉f→RdL (w.setRow b arr') O xs vs f:=fun hr hnb=>
   hr.frame (fun q hq=>⟨hother q (fun e=>hnb (e▸hq)),(hr.fpO q hq).1⟩) hstill
  have htake:arr'.toList.take (Ay (xs++ys)).length=arr.toList.take (Ay xs).length++us:=by
   have hl1:(arr.toList.take (xs.length*m)++us).length=(Ay (xs++ys)).length:=by
    rw [hflat,List.length_append,List.length_take,hul,Nat.add_mul]
    simp;rw [hsz,hul] at hfit;omega
   simp only [arr',hsz,hxl]
   rw [←hl1,List.take_left]
  have hread:RdL (w.setRow b arr') O [.sl true m (xs++ys)] [.slice (some ⟨b,0,none⟩) (xs.length+ys.length) cap] (b::([]++[])):=by
   have hh:=Hdr.sl true m (xs++ys) b 0 cap hmXY (by simpa using hroom)
   simp only [List.length_append] at hh
   refine .oblk hh hheap hO (by omega) ?_ .nil
   rw [htake,E3]
   exact (frm hf (by simp)).append (frm rY (by simp))
  simp only [List.append_nil] at hread
  have hU:Fv σ1 (.ref r [])=some (.sl true m xs,Ak r .top σ1):=by simp [Fv,hL]
  obtain ⟨fp2,fpV,o2,rV,nV,dV,s2⟩:=Pi o1 (Wb hrx rfl).1 hU
  have hfV:b∈fpV:=by
   rw [hvx] at rV
   rcases Yv rV with ⟨_,hv,_⟩ | ⟨b2,cap2,arr2,e2,fpk2,hv2,_,_,_,_,_,ef2,_⟩
   ·cases hv
   ·cases hv2;rw [ef2];simp
  have hb2:¬Sof fp2 b:=(dV b hfV).2
  have hbS:Sof fp b:=s1 b (dV b hfV).1
  obtain ⟨fp3,o3,s3⟩:=Lc (s:=r) o2 (x:= .val (.raw (.slice (some ⟨b,0,none⟩) xs.length cap))) (by rw [hvt];exact .val rfl (.leaf (.raw _) .nil) .nil)
  have er:look (Ak r (.val (.raw (.slice (some ⟨b,0,none⟩) xs.length cap))) (Ak r .top σ1))=look (Ak r (.val (.raw (.slice (some ⟨b,0,none⟩) xs.length cap))) σ1):=by
   funext u
   rw [Bl,Bl,Bl]
   simp only [upF,Gw]
   split
   ·rfl
   ·exact O3 (Ao r 0) (fun q l=>by unfold Ao;split<;>simp) _
  have o3:Ok (Ak r (.val (.raw (.slice (some ⟨b,0,none⟩) xs.length cap))) σ1) a w O gv N vals fp3:=⟨by rw [←er];exact o3.sim,o3.lo,o3.hi,o3.sz,o3.df⟩
  obtain ⟨fp4,o4,s4⟩:=Lc (s:=s) o3 (x:= .val (.raw (.slice (some ⟨b,0,none⟩) xs.length cap))) (by rw [hvs,hvt];exact .val rfl (.leaf (.raw _) .nil) .nil)
  have hb4:¬Sof fp4 b:=fun hh=>hb2 (s3 b (s4 b hh))
  have o5:=o4.world hstill fun q hq=>by
   have hqb:q≠b:=by rintro rfl;exact hb4 hq
   obtain ⟨s,hs⟩:=hq
   exact ⟨hother q hqb,(o4.sim.fpO s q hs).1⟩
  obtain ⟨fp6,o6,s6⟩:=o5.put_own hN hread (by simp) (by
   intro q hq
   simp only [List.mem_cons,List.not_mem_nil,or_false] at hq
   subst hq
   exact hb4)
  obtain ⟨fp7,o7,s7⟩:=Lc (s:=ef) o6 (x:= .rfv (.slice (some ⟨b,0,none⟩) (xs.length+ys.length) cap) d []) (.rfv (by rw [Bl];simp [upF,A.mapR];rfl) rfl (by simp [B5,upF]) .nil)
  refine ⟨_,_,O,_,fp7,.inl (hexec _ _ hrun),by rw [hd];exact o7,⟨rfl,rfl,rfl,by simp [World.setRow],?_,?_⟩⟩
  ·intro q _ hq
   exact ⟨hother q (by rintro rfl;exact hq hbS),.rfl⟩
  intro q hq
  left
  rcases s6 q (s7 q hq) with h | h
  ·exact s1 q (s2 q (s3 q (s4 q h)))
  simp only [List.mem_cons,List.not_mem_nil,or_false] at h
  subst h;exact hbS
 left
 have holds : ∀j u,(arr.toList.take (Ay xs).length)[j]? = some u→w.cell? ((⟨b,0,none⟩:Addr).add j)=some u:=U1 hb
 have hne:ys≠[]:=by rintro rfl;simp at hroom;omega
 obtain ⟨ab,rfl,hcy'⟩:=hcy.resolve_left (fun h=>hne h.1)
 have hlt:(arr.toList.take (Ay xs).length).length=xs.length*fi.size:=by
  rw [hf.length,hxl,hsz]
 have hrun:=run_append_grow (P:=P) w t o.type e fi z hu hi hz ⟨b,0,none⟩ xs.length cap _ hlt holds ab ys.length cy us (by rw [hul,hsz]) hcy' (by omega) (by omega)
  (growslice_fits (by omega) (by
   calc (xs.length+ys.length)*fi.bytes≤4294967296*1024:=Nat.mul_le_mul hlim hby
    _≤140737488355328:=by omega))
 rw [←hvx,←hvy] at hrun
 have hcapge:=grownCap_ge w (xs.length+ys.length) cap e
 have hh:=Hdr.sl true m (xs++ys) w.heap.size 0 (grownCap w (xs.length+ys.length) cap e) hmXY (by simpa using hcapge)
 simp only [List.length_append] at hh
 have hlist : ∀zs:Array Value,((arr.toList.take (Ay xs).length).toArray++us.toArray++zs).toList.take (Ay (xs++ys)).length=arr.toList.take (Ay xs).length++us:=by
  intro zs
  have hl1:(arr.toList.take (Ay xs).length++us).length=(Ay (xs++ys)).length:=by
   rw [List.length_append,hlt,hul,hflat,hsz,Nat.add_mul]
  simp only [Array.toList_append,List.append_assoc]
  rw [←List.append_assoc,←hl1,List.take_left]
 refine Wt (w':=w.drew.alloc (.cells ((arr.toList.take (Ay xs).length).toArray++us.toArray++Builtin.zeroCells z.cells (grownCap w (xs.length+ys.length) cap e-(xs.length+ys.length))) e)) (fpV:=[]) o1 hd hN s1 (by simp) (by simp) rfl rfl rfl rfl hh ?_ ?_ (hexec _ _ hrun)
 ·simp only [Array.size_append,List.size_toArray,hlt,hul,hsz,size_zeroCells,hzs,←Nat.add_mul]
  exact Nat.mul_le_mul_right _ (by omega)
 rw [hlist,E3]
 exact hf.append rY
end Go.Proofs.Ytmmcfdfdacpjgaa.Ax
namespace Go.Proofs.Ytmmcfdfdacpjgaa.Ax
open Go
theorem RelL.append {w O L vals as vs bs us} (h:RelL w O L vals as vs) (k:RelL w O L vals bs us):RelL w O L vals (as++bs) (vs++us):=by
 induction h with
 | nil=>exact k
 | top _ ih=>exact .top ih
 | val a b _ ih=>exact .val a b ih
 | ref a b c _ ih=>exact .ref a b c ih
 | rfv a b c _ ih=>exact .rfv a b c ih
 | addr a b c d e _ ih=>exact .addr a b c d e ih
 | fad a b c _ ih=>exact .fad a b c ih
 | agg s _ _ ih=>exact .agg s ih
 | clo s _ _ ih=>exact .clo s ih
theorem RelL.uncons {w O L vals x as v vs} (h:RelL w O L vals (x::as) (v::vs)):RelL w O L vals [x] [v]∧RelL w O L vals as vs:=by
 cases h with
 | top t=>exact ⟨.top .nil,t⟩
 | val a b t=>exact ⟨.val a b .nil,t⟩
 | ref a b c t=>exact ⟨.ref a b c .nil,t⟩
 | rfv a b c t=>exact ⟨.rfv a b c .nil,t⟩
 | addr a b c d e t=>exact ⟨.addr a b c d e .nil,t⟩
 | fad a b c t=>exact ⟨.fad a b c .nil,t⟩
 | agg s t=>exact ⟨.agg s .nil,t⟩
 | clo s t=>exact ⟨.clo s .nil,t⟩
theorem RelL.split {w O L vals} : ∀ {as bs:List A} {vs:List Value},RelL w O L vals (as++bs) vs → ∃us ws,vs=us++ws∧RelL w O L vals as us∧RelL w O L vals bs ws:=by
 intro as
 induction as with
 | nil=>intro bs vs h;exact ⟨[],vs,rfl,.nil,h⟩
 | cons a r ih=>
   intro bs vs h
   have hl:=h.length
   match vs,hl with
   | v::vs,_=>
     obtain ⟨h1,h2⟩:=h.uncons
     obtain ⟨us,ws,e,h3,h4⟩:=ih h2
     subst e
     exact ⟨v::us,ws,rfl,by simpa using h1.append h3,h4⟩
theorem RelL.takeDrop {w O L vals} : ∀(n:Nat) {as vs},RelL w O L vals as vs→RelL w O L vals (as.take n) (vs.take n)∧RelL w O L vals (as.drop n) (vs.drop n):=by
 intro n
 induction n with
 | zero=>intro as vs h;exact ⟨by simpa using .nil,by simpa using h⟩
 | succ n ih=>
   intro as vs h
   have hl:=h.length
   cases as with
   | nil=>cases vs with
     | nil=>exact ⟨by simpa using .nil,by simpa using .nil⟩
     | cons _ _=>simp at hl
   | cons x r=>cases vs with
     | nil=>simp at hl
     | cons v vs=>
       obtain ⟨h1,h2⟩:=h.uncons
       obtain ⟨a,b⟩:=ih h2
       exact ⟨by simpa using h1.cons_join a,by simpa using b⟩
theorem RelL.splice {w O L vals as vs bs us} (h:RelL w O L vals as vs) (k:RelL w O L vals bs us) (c:Nat):RelL w O L vals (Ax.splice as c bs) (Ax.splice vs c us):=by
 unfold Ax.splice
 rw [k.length]
 exact (h.takeDrop c).1.append (k.append (h.takeDrop (c+bs.length)).2)
def Mq (σ:St):A→Option (List A)
 | .agg as=>some as
 | .val (.agg cs)=>some (cs.map .val)
 | .val v=>if v.isCell then some [.val v] else none
 | .ref r p=>match B0 σ r p with
   | some (.agg cs)=>some (Tc r p 0 cs)
   | some u=>if u.isCell then some [.ref r p] else none
   | none=>none
 | .clo f as=>some [.clo f as]
 | .addr r p c=>some [.addr r p c]
 | .rfv _ _ _=>none
 | .fad cs=>some [.fad cs]
 | .top=>none
theorem Z8 {w O L vals} : ∀ {cs us},RdL w O cs us []→A4 cs=false→RelL w O L vals (cs.map .val) us:=by
 intro cs
 induction cs with
 | nil=>intro us h _;cases h;exact .nil
 | cons c r ih=>
   intro us h hn
   simp [A4] at hn
   obtain ⟨u,us2,f1,f2,rfl,hf,h1,h2⟩:=h.cons_split
   obtain ⟨rfl,rfl⟩:=List.append_eq_nil_iff.1 hf.symm
   exact .val hn.1 h1 (ih h2 hn.2)
theorem Atn {σ a w O gv N vals fp} (h:Ok σ a w O gv N vals fp) {x v as} (hr:RelL w O (look σ) vals [x] [v]) (hc:Mq σ x=some as) :
  ∃us,v.cells=us.toArray∧RelL w O (look σ) vals as us:=by
 cases hr with
 | top _=>simp [Mq] at hc
 | rfv _ _ _ _=>simp [Mq] at hc
 | agg s t=>cases t;simp [Mq] at hc;subst hc;exact ⟨_,rfl,s⟩
 | clo s t=>cases t;simp [Mq] at hc;subst hc;exact ⟨[_],rfl,.clo s .nil⟩
 | addr a b c d e t=>simp [Mq] at hc;subst hc;exact ⟨[_],rfl,.addr a b c d e .nil⟩
 | fad a b c t=>simp [Mq] at hc;subst hc;exact ⟨[_],rfl,.fad a b c .nil⟩
 | @val y v _ _ hn hr t=>
   by_cases ha : ∃cs,y = .agg cs
   ·obtain ⟨cs,rfl⟩:=ha
    simp [Mq] at hc;subst hc
    obtain ⟨us,rfl,hus⟩:=Ao7 hr
    exact ⟨us,rfl,Z8 hus (by simpa [V.hasOwn] using hn)⟩
   ·have:y.isCell=true∧as=[.val y]:=by
     cases y<;>simp_all [Mq]
    obtain ⟨h1,rfl⟩:=this
    exact ⟨[v],(Ain hr h1).2,.val hn hr .nil⟩
 | @ref r p T u v _ _ hL hs hv t=>
   simp only [Mq,B0,hL,hs] at hc
   obtain ⟨z,f1,fu,f2,_,hz,hru,_⟩:=ctx p (h.sim.own r T hL) hs
   rw [hv] at hz;cases hz
   by_cases ha : ∃cs,u = .agg cs
   ·obtain ⟨cs,rfl⟩:=ha
    simp at hc;subst hc
    obtain ⟨us,e,hus⟩:=Ao7 hru
    obtain ⟨us',h1,h2,h3⟩:=Z7 h hL hs rfl hv cs 0 (by intro j hj;simp [V.kids])
    have:us'=us:=by
     apply List.ext_getElem?
     intro j
     by_cases hj:j<us'.length
     ·rw [←h2 j hj,e];simp [Ge]
     ·rw [List.getElem?_eq_none (by omega),List.getElem?_eq_none (by rw [hus.length,←h1];omega)]
    subst this
    exact ⟨us',by rw [e];rfl,h3⟩
   ·have:u.isCell=true∧as=[.ref r p]:=by
     cases u<;>simp_all
    obtain ⟨h1,rfl⟩:=this
    exact ⟨[_],(Ain hru h1).2,.ref hL hs hv .nil⟩
def Acx (σ:St):List A→List (Nat×Nat×X)→Option (List A)
 | cells,[]=>some cells
 | cells,(off,size,x)::r=>match Mq σ (Ai σ x) with
   | some as=>if as.length=size∧off+size≤cells.length then Acx σ (splice cells off as) r else none
   | none=>none
def A2p (d:Nat) (z:List V) (ps:List (Nat×Nat×X)) (σ:St):Option St:=match Acx σ (z.map .val) ps with
 | some as=>some (Ak d (upA (mkA true as)) σ)
 | none=>none
def Abv (N:Nat) (place:Nat→Option (Nat×Nat)):List (Nat×Nat×X)→List (Nat×Operand)→Bool
 | [],[]=>true
 | (off,size,x)::r,(i,o)::s=>place i==some (off,size)&&Au N x o&&Abv N place r s
 | _,_=>false
theorem Ax9 {σ a w O gv N vals fp} (h:Ok σ a w O gv N vals fp) {place:Nat→Option (Nat×Nat)} : ∀ {ps:List (Nat×Nat×X)} {os:List (Nat×Operand)} {cells as:List A} {arr:Array Value},
  RelL w O (look σ) vals cells arr.toList→Abv N place ps os=true→Acx σ cells ps=some as →
  ∃arr',Instr.fill place arr (os.map fun x=>(x.1,a.eval x.2))=some arr'∧RelL w O (look σ) vals as arr'.toList:=by
 intro ps
 induction ps with
 | nil=>intro os cells as arr hr hf hg;cases os<;>simp [Abv] at hf;simp [Acx] at hg;subst hg;exact ⟨arr,rfl,hr⟩
 | cons p r ih=>
   intro os cells as arr hr hf hg
   obtain ⟨off,size,x⟩:=p
   cases os with
   | nil=>simp [Abv] at hf
   | cons q s=>
     obtain ⟨i,o⟩:=q
     simp only [Abv,Bool.and_eq_true,beq_iff_eq] at hf
     simp only [Acx] at hg
     split at hg
     case h_2=>cases hg
     rename_i bs hbs
     split at hg
     case isFalse=>cases hg
     rename_i hb
     obtain ⟨us,hus,rus⟩:=Atn h (Ap h hf.1.2) hbs
     have hl:=hr.length
     have hul:=rus.length
     simp at hl
     obtain ⟨arr1,h1,h2,h3⟩:=Ani (place:=place) (cells:=arr) (i:=i) (v:=a.eval o) (rest:=s.map fun x=>(x.1,a.eval x.2)) hf.1.1 (by rw [hus];simp;omega) (by omega)
     obtain ⟨arr',h4,h5⟩:=ih (arr:=arr1) (by rw [h2,hus];simpa using hr.splice rus off) hf.2 hg
     exact ⟨arr',by rw [List.map_cons,h1,h4],h5⟩
def Akf (P:Program) (t:TypeId):Option (Nat→Option (Nat×Nat)):=match P.underlying t with
 | some (.array _ e)=>match P.info? e with
   | some ie=>some fun i=>some (i*ie.size,ie.size)
   | none=>none
 | some (.struct fields)=>match fields.toList.mapM (fun f=>(P.info? f.type).map fun i=>(f.offset,i.size)) with
   | some places=>some (places.toArray[·]?)
   | none=>none
 | _=>none
theorem A26 {P:Program} {o:Oper} {σ σ' a w O gv N vals fp} {d:Nat} {t z ps} {parts:Array (Nat×Operand)} {place} {fi:TypeInfo} {zv:Value} (h:Ok σ a w O gv N vals fp)
  (ho:o.op = .build t parts) (hd:o.dst=some d) (hN:d<N) (hp:Akf P t=some place) (hf:Abv N place ps parts.toList=true) (hi:P.info? t=some fi) (hz:fi.zero=some zv)
  (hc:Arw z zv.cells.toList=true) (hs:A2p d z ps σ=some σ'):Bo P o σ' a w O gv N fp:=by
 simp only [A2p] at hs
 split at hs
 case h_2=>cases hs
 rename_i as has
 cases hs
 obtain ⟨rz,nz⟩:=An6 w O z zv.cells.toList hc
 obtain ⟨arr,h1,h2⟩:=Ax9 h (arr:=zv.cells) (Z8 rz nz) hf has
 have hb:P.built t (parts.map fun (x:Nat×Operand)=>(x.1,a.eval x.2)).toList=some arr:=by
  rw [Array.toList_map]
  unfold Program.built
  unfold Akf at hp
  rw [hi]
  split at hp
  ·rename_i e hu
   rw [hu]
   split at hp
   ·rename_i ie hie;cases hp;simp only [hz,hie];exact h1
   ·cases hp
  ·rename_i fields hu
   rw [hu]
   split at hp
   ·rename_i places hpl;cases hp;simp only [hz,hpl];exact h1
   ·cases hp
  ·cases hp
 have hrun:=run_build (P:=P) w t _ arr hb
 have:=Avi (ag:=true) h2 (by simp)
 simp at this
 exact .up h hd hN this (by simp [execOp,ho,hrun])
def Ag5 (s:ByteArray) (j:Int):Int:=((s.data.getD j.toNat 0).toNat:Int)
def Au0 (d:Nat) (x i:A) (σ:St):Option St:=match x,i with
 | .val (.str s),.val (.int _ j)=>if 0≤j∧j<s.size then some (Ak d (.val (.int .u8 (Ag5 s j))) σ) else none
 | _,_=>none
theorem A0s {P:Program} {o:Oper} {σ σ' a w O gv N vals fp} {d:Nat} {t i i' x x'} (h:Ok σ a w O gv N vals fp) (ho:o.op = .index t x' i') (hd:o.dst=some d) (hN:d<N)
  (hx:Au N x x'=true) (hii:Au N i i'=true) (hu:P.underlying t=some .string) (hs:Au0 d (Ai σ x) (Ai σ i) σ=some σ'):Bo P o σ' a w O gv N fp:=by
 simp only [Au0] at hs
 split at hs
 case h_2=>cases hs
 rename_i s k j hxs hj
 split at hs
 case isFalse=>cases hs
 rename_i hb
 cases hs
 have hri:=Ap h hii
 rw [hj] at hri
 have hiv:a.eval i' = .int k j:=by cases hri with | val _ hr _=>exact B4 hr
 have hrx:=Ap h hx
 rw [hxs] at hrx
 have hxv:a.eval x' = .string s:=by cases hrx with | val _ hr _=>exact J8 hr
 refine .rel h hd hN (.val rfl (.leaf (.int _ _) .nil) .nil) ?_
 have hlt:j.toNat<s.size:=by omega
 have e:s[j.toNat]? = some (s.data.getD j.toNat 0):=by
  have h1:j.toNat<s.data.size:=hlt
  rw [getElem?_pos s j.toNat hlt]
  simp only [Array.getD]
  rw [dif_pos h1];rfl
 simp [execOp,ho,hxv,hiv,Instr.index,asIntOf,run_underlying hu,hb.1,e,Ag5]
def A16 (d:Nat) (x:A) (σ:St):Option St:=match H8 σ x with
 | some _=>some (Ak d x σ)
 | none=>none
theorem A3f {P:Program} {o:Oper} {σ σ' a w O gv N vals fp} {d:Nat} {x x'} (h:Ok σ a w O gv N vals fp) (ho:o.op = .nilCheck x') (hd:o.dst=some d) (hN:d<N)
  (hx:Au N x x'=true) (hs:A16 d (Ai σ x) σ=some σ'):Bo P o σ' a w O gv N fp:=by
 simp only [A16] at hs
 split at hs
 case h_2=>cases hs
 rename_i l hl
 cases hs
 have hr:=Ap h hx
 obtain ⟨b,c,hv,_⟩:=R6 0 (L8 h hr hl)
 exact .rel h hd hN hr (by simp [execOp,ho,hv])
def A3t (d:Nat) (x y:A) (σ:St):Option St:=match x,y with
 | .val (.int k a),.val (.int _ b)=>some (Ak d (.val (.int k (if b>a then b else a))) σ)
 | _,_=>none
theorem A3c {P:Program} {o:Oper} {σ σ' a w O gv N vals fp} {d:Nat} {x x' y y' ts} (h:Ok σ a w O gv N vals fp) (ho:o.op = .call { callee:= .builtin .max,args := #[x',y'],argTypes:=ts }) (hd:o.dst=some d) (hN:d<N)
  (hx:Au N x x'=true) (hy:Au N y y'=true) (hs:A3t d (Ai σ x) (Ai σ y) σ=some σ'):Bo P o σ' a w O gv N fp:=by
 have hrx:=Ap h hx
 have hry:=Ap h hy
 unfold A3t at hs
 split at hs
 case h_2=>cases hs
 rename_i k p k' q hex hey
 cases hs
 rw [hex] at hrx;rw [hey] at hry
 have hvx:a.eval x' = .int k p:=by cases hrx with | val _ hr _=>exact B4 hr
 have hvy:a.eval y' = .int k' q:=by cases hry with | val _ hr _=>exact B4 hr
 exact .rel h hd hN (.val rfl (.leaf (.int _ _) .nil) .nil) (by simp [execOp,ho,resolve,invoke,builtin,hvx,hvy,Builtin.max_,Builtin.max2])
def A2k (f:Nat) (as:List A):A:=match Jc as with
 | some vs=> .val (.clo f vs)
 | none=> .clo f as
theorem A3n {P:Program} {o:Oper} {σ a w O gv N vals fp} {d f:Nat} {cs:List X} {cs':Array Operand} (h:Ok σ a w O gv N vals fp) (ho:o.op = .makeFunc (.func f) #[] cs') (hd:o.dst=some d) (hN:d<N)
  (hx:Ob N cs cs'.toList=true):Bo P o (Ak d (A2k f (cs.map (Ai σ))) σ) a w O gv N fp:=by
 have hr:=Abz h hx
 have hrun:(execOp a.eval o).run P w = .ok (.value (.func (.func f) #[] (cs'.toList.map a.eval).toArray)) w:=by
  simp [execOp,ho,Instr.makeFunc]
  rw [←Array.toList_map]
 refine .rel h hd hN ?_ hrun
 unfold A2k
 split
 ·rename_i vs hv
  obtain ⟨h2,h3⟩:=Anq hr hv
  exact .val (by simpa [V.hasOwn] using h3) (by simpa using RdL.grp (.clo f vs _) h2 .nil) .nil
 exact .clo hr .nil
end Go.Proofs.Ytmmcfdfdacpjgaa.Ax
namespace Go.Proofs.Ytmmcfdfdacpjgaa.Ax
open Go
theorem Axb {m:Nat} : ∀(l:Nat) {xs:List V},(∀x∈xs,x.cells.length=m)→Ay (xs.drop l)=(Ay xs).drop (l*m):=by
 intro l
 induction l with
 | zero=>intro xs _;simp
 | succ l ih=>
   intro xs h
   cases xs with
   | nil=>simp [Ay]
   | cons x r=>
     have hx:=h x (by simp)
     rw [List.drop_succ_cons,ih fun y hy=>h y (by simp [hy])]
     simp only [Ay]
     rw [Nat.succ_mul,Nat.add_comm,←List.drop_drop,←hx,List.drop_left]
theorem Aw8 {m:Nat} : ∀(l:Nat) {xs:List V},(∀x∈xs,x.cells.length=m)→Ay (xs.take l)=(Ay xs).take (l*m):=by
 intro l
 induction l with
 | zero=>intro xs _;simp [Ay]
 | succ l ih=>
   intro xs h
   cases xs with
   | nil=>simp [Ay]
   | cons x r=>
     have hx:=h x (by simp)
     rw [List.take_succ_cons]
     simp only [Ay]
     have e1:List.take (l*m+m) x.cells=x.cells:=List.take_of_length_le (by rw [hx];exact Nat.le_add_left _ _)
     rw [ih fun y hy=>h y (by simp [hy]),Nat.succ_mul,List.take_append,hx,Nat.add_sub_cancel,e1]
theorem Atd {xs:List V} (h:A4 xs=false) (a b:Nat):A4 ((xs.drop a).take b)=false:=by
 have h1:A4 (xs.drop a)=false:=by
  rw [←List.take_append_drop a xs,F8] at h
  simp only [Bool.or_eq_false_iff] at h;exact h.2
 rw [←List.take_append_drop b (xs.drop a),F8] at h1
 simp only [Bool.or_eq_false_iff] at h1;exact h1.1
theorem A0y {w O xs vs} (h:RdL w O xs vs []) (n:Nat):RdL w O (xs.drop n) (vs.drop n) []:=by
 have h':=h
 rw [←List.take_append_drop n xs] at h'
 obtain ⟨v1,v2,f1,f2,e1,e2,r1,r2⟩:=RdL.split _ h'
 have l1:=r1.length
 have l0:=h.length
 have ef:=List.append_eq_nil_iff.1 e2.symm
 rw [ef.2] at r2
 have:v2=vs.drop n:=by
  by_cases hn:n≤xs.length
  ·have hl:v1.length=n:=by rw [l1,List.length_take];omega
   rw [e1,←hl,List.drop_left]
  ·have hd:xs.drop n=[]:=List.drop_eq_nil_of_le (by omega)
   have l2:=r2.length
   rw [hd] at l2
   rw [List.drop_eq_nil_of_le (by omega)]
   exact List.length_eq_zero_iff.1 l2
 rw [←this];exact r2
theorem A1t {w O xs vs} (h:RdL w O xs vs []) (n:Nat):RdL w O (xs.take n) (vs.take n) []:=by
 have h':=h
 rw [←List.take_append_drop n xs] at h'
 obtain ⟨v1,v2,f1,f2,e1,e2,r1,r2⟩:=RdL.split _ h'
 have l1:=r1.length
 have l0:=h.length
 have l2:=r2.length
 have ef:=List.append_eq_nil_iff.1 e2.symm
 rw [ef.1] at r1
 have:v1=vs.take n:=by
  by_cases hn:n≤xs.length
  ·have hl:v1.length=n:=by rw [l1,List.length_take];omega
   rw [e1,←hl,List.take_left]
  ·have hd:xs.drop n=[]:=List.drop_eq_nil_of_le (by omega)
   rw [hd] at l2
   have h2:v2=[]:=List.length_eq_zero_iff.1 l2
   rw [e1,h2,List.append_nil,List.take_of_length_le (by rw [l1,List.length_take];omega)]
 rw [←this];exact r1
theorem A37 {w O m xs v fp} (h:RdL w O [.sl false m xs] [v] fp) {l k:Nat} (hl:l+k≤xs.length) :
  ∃a cap,v = .slice a xs.length cap∧xs.length≤cap∧RdL w O [.sl false m ((xs.drop l).take k)] [sliced a l (l+k) cap m] []:=by
 cases h with
 | leaf h t=>
   cases h with
   | nils=>
     have h1:l=0∧k=0:=by simp at hl;omega
     obtain ⟨rfl,rfl⟩:=h1
     exact ⟨none,0,rfl,Nat.le_refl _,.leaf (.nils m) .nil⟩
   | empt _ a=>
     have h1:l=0∧k=0:=by simp at hl;omega
     obtain ⟨rfl,rfl⟩:=h1
     exact ⟨some a,0,rfl,Nat.le_refl _,.leaf (.empt m a) .nil⟩
 | grp h _ _=>cases h
 | oblk h _ _ _ _ _=>cases h
 | @fblk _ _ b off k0 ch vch _ _ _ hh hc hO s t=>
   cases hh with
   | sl _ _ _ _ _ cap hm hcap=>
     refine ⟨some ⟨b,off,none⟩,cap,rfl,hcap,?_⟩
     have hsl:=s.length
     have hfl:=Ed hm
     by_cases hcl:cap=l
     ·have hk:k=0:=by omega
      subst hk
      have e:sliced (some ⟨b,off,none⟩) l (l+0) cap m = .slice (some ⟨b,off,none⟩) 0 0:=by simp [sliced,hcl]
      rw [e,List.take_zero]
      exact .leaf (.empt m _) .nil
     ·have e:sliced (some ⟨b,off,none⟩) l (l+k) cap m = .slice (some ⟨b,off+l*m,none⟩) ((xs.drop l).take k).length (cap-l):=by
       simp only [sliced,if_neg hcl,Option.map_some,G9]
       congr 1
       rw [List.length_take,List.length_drop];omega
      rw [e]
      have hm2 : ∀x∈(xs.drop l).take k,x.cells.length=m:=fun x hx=>hm x (List.mem_of_mem_drop (List.mem_of_mem_take hx))
      have hd:=Hdr.sl false m ((xs.drop l).take k) b (off+l*m) (cap-l) hm2 (by rw [List.length_take,List.length_drop];omega)
      have ef:Ay ((xs.drop l).take k)=((Ay xs).drop (l*m)).take (k*m):=by
       rw [Aw8 k fun x hx=>hm x (List.mem_of_mem_drop hx),Axb l hm]
      rw [ef] at hd
      refine .fblk (vch:=(vch.drop (l*m)).take (k*m)) hd ?_ ⟨?_,Atd hO.2 _ _⟩ (A1t (A0y s _) _) .nil
      ·intro i hi
       rw [List.length_take,List.length_drop] at hi
       have:=hc (l*m+i) (by omega)
       rw [Nat.add_assoc,this,List.getElem?_take,if_pos (by omega),List.getElem?_drop]
      ·rcases hO.1 with h1 | h1
       ·left;rw [h1];simp
       ·exact .inr h1
def Awt:A→Option Int
 | .val (.int _ n)=>some n
 | _=>none
def Ab3 (dflt:Int):Option A→Option Int
 | none=>some dflt
 | some a=>Awt a
def As0 (m:Nat) (cs:List V):Option A→Option A→Bool
 | none,some (.val (.bool true))=>Nat.beq m (1000000+cs.length)&&cs.all V.isCell
 | _,_=>false
def Aul (d m:Nat) (x:A) (lo hi:Option A) (σ:St):Option St:=match x with
 | .val (.ptr o (.agg cs))=>match o with
   | true=>none
   | false=>if As0 m cs lo hi=true then some (Ak d (.val (.sl false 1 cs)) σ) else none
 | .val (.sl o m' xs)=>match o with
   | true=>none
   | false=>(match Ab3 0 lo,Ab3 xs.length hi with
     | some l,some h=>if m'=m∧0≤l∧l≤h∧h≤xs.length then some (Ak d (.val (.sl false m ((xs.drop l.toNat).take (h.toNat-l.toNat)))) σ) else none
     | _,_=>none)
 | _=>none
def Aiv (m:Nat) (x:A) (lo hi:Option A):Option V:=match x with
 | .val (.ptr o (.agg cs))=>match o with
   | true=>none
   | false=>if As0 m cs lo hi=true then some (.sl false 1 cs) else none
 | .val (.sl o m' xs)=>match o with
   | true=>none
   | false=>(match Ab3 0 lo,Ab3 xs.length hi with
     | some l,some h=>if m'=m∧0≤l∧l≤h∧h≤xs.length then some (.sl false m ((xs.drop l.toNat).take (h.toNat-l.toNat))) else none
     | _,_=>none)
 | _=>none
theorem A04 {d m:Nat} {x:A} {lo hi:Option A} {σ:St}:Aul d m x lo hi σ=(Aiv m x lo hi).map fun v=>Ak d (.val v) σ:=by
 unfold Aul Aiv
 split
 ·split
  ·rfl
  split<;>rfl
 ·split
  ·rfl
  split
  ·split<;>rfl
  rfl
 rfl
theorem A1s {m:Nat} {x:A} {hi:Option A}:Aiv m x (some .top) hi=none:=by
 unfold Aiv
 split
 ·split
  ·rfl
  rfl
 ·split
  ·rfl
  rfl
 rfl
theorem A19 {m:Nat} {x:A} {lo:Option A}:Aiv m x lo (some .top)=none:=by
 unfold Aiv
 split
 ·split
  ·rfl
  cases lo<;>rfl
 ·split
  ·rfl
  split
  ·rename_i h;simp [Ab3,Awt] at h
  rfl
 rfl
def Uv (N:Nat):Option X→Option Operand→Bool
 | none,none=>true
 | some x,some o=>Au N x o
 | _,_=>false
theorem Ak8 {σ a w O gv N vals fp} (h:Ok σ a w O gv N vals fp) {x:X} {x':Operand} (hx:Au N x x'=true) {n:Int} (hn:Awt (Ai σ x)=some n) : ∃k,a.eval x' = .int k n:=by
 have hr:=Ap h hx
 unfold Awt at hn
 split at hn
 ·rename_i k n' he
  cases hn
  rw [he] at hr
  cases hr with
  | val _ hr _=>exact ⟨k,B4 hr⟩
 cases hn
theorem A3w {P:Program} {o:Oper} {σ σ' a w O gv N vals fp} {d m:Nat} {t x x' e} {lo hi:Option X} {lo' hi':Option Operand} {fi:TypeInfo} (h:Ok σ a w O gv N vals fp) (ho:o.op = .slice t x' lo' hi' none) (hd:o.dst=some d) (hN:d<N)
  (hx:Au N x x'=true) (hlo:Uv N lo lo'=true) (hhi:Uv N hi hi'=true) (hu:P.underlying t=some (.slice e)) (hi2:P.info? e=some fi) (hsz:fi.size=m) (hm6:m<1000000)
  (hs:Aul d m (Ai σ x) (lo.map (Ai σ)) (hi.map (Ai σ)) σ=some σ'):Bo P o σ' a w O gv N fp:=by
 have hrx:=Ap h hx
 have hel:P.elem t=e:=by simp [Program.elem,hu]
 have hu':P.underlying t=some (.slice (P.elem t)):=by rw [hel];exact hu
 unfold Aul at hs
 split at hs
 case h_3=>cases hs
 case h_1=>
  split at hs
  ·cases hs
  ·split at hs
   ·rename_i hao
    unfold As0 at hao
    split at hao
    ·have hao2:=Nat.eq_of_beq_eq_true (Bool.and_eq_true _ _▸hao:_∧_).1
     omega
    ·cases hao
   ·cases hs
 rename_i o' m' xs hex
 split at hs
 ·cases hs
 split at hs
 case h_2=>cases hs
 rename_i l hh hl hr
 split at hs
 case isFalse=>cases hs
 rename_i hb
 obtain ⟨rfl,b0,b1,b2⟩:=hb
 cases hs
 rw [hex] at hrx
 cases hrx with
 | val hn hr0 _=>
   obtain ⟨ad,cap,hv,hcap,hres⟩:=A37 hr0 (l:=l.toNat) (k:=hh.toNat-l.toNat) (by omega)
   have eh:l.toNat+(hh.toNat-l.toNat)=hh.toNat:=by omega
   rw [eh] at hres
   have hsize : ∀w:World,(sizeOf (P.elem t)).run P w = .ok m' w:=fun w=>by rw [hel,←hsz];exact E4 hi2 w
   refine .rel h hd hN (v:=sliced ad l.toNat hh.toNat cap m') (.val rfl hres .nil) ?_
   cases lo with
   | none=>
     cases lo' with
     | some _=>simp [Uv] at hlo
     | none=>
       simp only [Option.map_none,Ab3,Option.some.injEq] at hl
       subst hl
       cases hi with
       | none=>
         cases hi' with
         | some _=>simp [Uv] at hhi
         | none=>
           simp only [Option.map_none,Ab3,Option.some.injEq] at hr
           subst hr
           have e1:=run_slice_all w t ad xs.length cap hu'
           simp [execOp,ho,hv,run_sliceAt_slice _ _ _ _ _ _ hu',e1,hsize]
       | some y=>
         cases hi' with
         | none=>simp [Uv] at hhi
         | some y'=>
           simp only [Option.map_some,Ab3] at hr
           obtain ⟨k,hk⟩:=Ak8 h hhi hr
           have e1:=run_slice_h w t ad xs.length cap hu' k hh (by omega) (by omega)
           simp [execOp,ho,hv,hk,run_sliceAt_slice _ _ _ _ _ _ hu',e1,hsize]
   | some y=>
     cases lo' with
     | none=>simp [Uv] at hlo
     | some y'=>
       simp only [Option.map_some,Ab3] at hl
       obtain ⟨k,hk⟩:=Ak8 h hlo hl
       cases hi with
       | none=>
         cases hi' with
         | some _=>simp [Uv] at hhi
         | none=>
           simp only [Option.map_none,Ab3,Option.some.injEq] at hr
           subst hr
           have e1:=run_slice_l w t ad xs.length cap hu' k l (by omega) (by omega)
           simp [execOp,ho,hv,hk,run_sliceAt_slice _ _ _ _ _ _ hu',e1,hsize]
       | some z=>
         cases hi' with
         | none=>simp [Uv] at hhi
         | some z'=>
           simp only [Option.map_some,Ab3] at hr
           obtain ⟨k2,hk2⟩:=Ak8 h hhi hr
           have e1:=run_slice_lh w t ad xs.length cap hu' k k2 l hh (by omega) (by omega) (by omega)
           simp [execOp,ho,hv,hk,hk2,run_sliceAt_slice _ _ _ _ _ _ hu',e1,hsize]
theorem Alh : ∀ {cs:List V},cs.all V.isCell=true→Ay cs=cs
 | [],_=>rfl
 | c::cs,h=>by
   simp only [List.all_cons,Bool.and_eq_true] at h
   have e:c.cells=[c]:=by
    cases c<;>first | rfl | exact absurd h.1 (by simp [V.isCell])
   show c.cells++Ay cs=c::cs
   rw [e,Alh h.2];rfl
theorem Ass : ∀ {cs:List V},cs.all V.isCell=true → ∀c∈cs,c.cells.length=1
 | [],_,c,hc=>by cases hc
 | c0::cs,h,c,hc=>by
   simp only [List.all_cons,Bool.and_eq_true] at h
   rcases List.mem_cons.1 hc with rfl | hc
   ·cases c<;>first | rfl | exact absurd h.1 (by simp [V.isCell])
   ·exact Ass h.2 c hc
theorem A4i {w O cs v fp} (h:RdL w O [.ptr false (.agg cs)] [v] fp) (hc:cs.all V.isCell=true) :
  ∃b off,v = .pointer (some ⟨b,off,none⟩)∧RdL w O [.sl false 1 cs] [.slice (some ⟨b,off,none⟩) cs.length cs.length] []:=by
 cases h with
 | leaf h _=>cases h
 | grp h _ _=>cases h
 | oblk h _ _ _ _ _=>cases h
 | @fblk _ _ b off k0 ch vch _ _ _ hh hcl hO s t=>
   cases hh with
   | ptr _ _ _ _=>
     refine ⟨b,off,rfl,?_⟩
     have hd:=Hdr.sl false 1 cs b off cs.length (Ass hc) (Nat.le_refl _)
     rw [Alh hc] at hd
     exact .fblk hd hcl hO s .nil
theorem A4p {P:Program} {o:Oper} {σ σ' a w O gv N vals fp} {d m n:Nat} {t x x' e} {fi:TypeInfo} (h:Ok σ a w O gv N vals fp) (ho:o.op = .slice t x' none none none) (hd:o.dst=some d) (hN:d<N)
  (hx:Au N x x'=true) (hu:P.underlying t=some (.array n e)) (hi2:P.info? e=some fi) (hsz:fi.size=1) (hmn:m=1000000+n)
  (hs:Aul d m (Ai σ x) none (some (.val (.bool true))) σ=some σ'):Bo P o σ' a w O gv N fp:=by
 have hrx:=Ap h hx
 have hal:P.arrayLen t=n:=by simp [Program.arrayLen,hu]
 have hel:P.elem t=e:=by simp [Program.elem,hu]
 have hu':P.underlying t=some (.array (P.arrayLen t) (P.elem t)):=by rw [hal,hel];exact hu
 unfold Aul at hs
 split at hs
 case h_3=>cases hs
 case h_2=>
  split at hs
  ·cases hs
  ·split at hs
   ·rename_i hr
    simp [Ab3,Awt] at hr
   ·cases hs
 rename_i o' cs hex
 split at hs
 ·cases hs
 split at hs
 case isFalse=>cases hs
 rename_i hao
 cases hs
 simp only [As0,Bool.and_eq_true] at hao
 have hcn:=Nat.eq_of_beq_eq_true hao.1
 rw [hex] at hrx
 cases hrx with
 | val hn hr0 _=>
   obtain ⟨b,off,hv,hres⟩:=A4i hr0 hao.2
   have hsize : ∀w:World,(sizeOf (P.elem t)).run P w = .ok 1 w:=fun w=>by rw [hel,←hsz];exact E4 hi2 w
   refine .rel h hd hN (v:= .slice (some ⟨b,off,none⟩) cs.length cs.length) (.val rfl hres .nil) ?_
   have hcl:cs.length=n:=by omega
   rw [hcl]
   simp [execOp,ho,hv,hsize,hal,run_sliceAt_array_all,hu',slicedAt,G9]
def A0d (d:Nat) (x:A) (σ:St):Option St:=match Ie σ x with
 | some (U,σ1)=>some (Ak d (.val U.fz) σ1)
 | none=>none
theorem Av3 {P:Program} {o:Oper} {σ σ' a w O gv N vals fp} {d:Nat} {x x'} (h:Ok σ a w O gv N vals fp) (ho:o.op = .move x'∨o.op = .assign x') (hd:o.dst=some d) (hN:d<N)
  (hx:Au N x x'=true) (hs:A0d d (Ai σ x) σ=some σ'):Bo P o σ' a w O gv N fp:=by
 have hr:=Ap h hx
 have hrun:(execOp a.eval o).run P w = .ok (.value (a.eval x')) w:=by rcases ho with ho | ho<;>simp [execOp,ho]
 unfold A0d at hs
 split at hs
 case h_2=>cases hs
 rename_i U σ1 hU
 cases hs
 obtain ⟨fp1,fpV,o1,rV,nV,dV,s1⟩:=My h hr hU
 let O2:Nat→Prop:=fun b=>O b∧b∉fpV
 have o2:Ok σ1 a w O2 gv N vals fp1:=o1.world (fun b hb _=>⟨rfl,fun hh=>hb hh.1⟩) (fun b hb=>⟨rfl,by
  obtain ⟨s,hs⟩:=hb
  exact (o1.sim.fpO s b hs).1,fun hh=>(dV b hh).2 hb⟩)
 have r2:RdL w O2 [U.fz] [a.eval x'] []:=by
  have:=rV.fz (O2:=O2) (fun b hb hh=>hh.2 hb) (fun b hb _ hh=>hb hh.1)
  simpa [fzL] using this
 obtain ⟨fp2,o3,s3⟩:=o2.put_own hN r2 (by simp) (by simp)
 refine ⟨a.eval x',w,O2,_,fp2,.inl hrun,by rw [hd];exact o3,⟨rfl,rfl,rfl,Nat.le_refl _,fun b _ hS=>⟨rfl,?_⟩,fun b hb=> .inl ?_⟩⟩
 ·exact ⟨fun hh=>hh.1,fun hh=>⟨hh,fun hv=>hS (dV b hv).1⟩⟩
 rcases s3 b hb with h1 | h1
 ·exact s1 b h1
 simp at h1
def Afr (e:Nat) (σ:St):St:=match look σ (e%100000) with
 | .val V=>Ak (e%100000) (.val (V.fzAt (e/100000))) (Ak (e%100000) .top σ)
 | _=>σ
theorem Ad7 {σ a w O gv N vals fp} (e0:Nat) (h:Ok σ a w O gv N vals fp) : ∃O' fp',Ok (Afr e0 σ) a w O' gv N vals fp'∧Mv w O (Sof fp) w O' (Sof fp'):=by
 unfold Afr
 generalize e0%100000=s
 generalize e0/100000=n
 split
 case h_2=>exact ⟨O,fp,h,Mv.refl _ _ _⟩
 rename_i V hV
 have h1:=h.sim.put_top s (vals s)
 rw [Zp,←D1] at h1
 obtain ⟨fp1,s1,s2,s3⟩:=RdL.fzAt (h.sim.own s V hV) (h.sim.nd s) n
 have hd : ∀t b,b∈upF fp s [] t→b∉fp s:=by
  intro t b hb hbs
  simp only [upF] at hb
  split at hb
  ·simp at hb
  ·rename_i hne;exact hne (h.sim.dj t s b hb hbs)
 have hstill:Iq w O w (fun b=>O b∧(b∈fp s→b∈fp1)):=fun b hb _=>⟨rfl,fun hh=>hb hh.1⟩
 have h2:=h1.world hstill (fun t b hb=>⟨rfl,(h1.fpO t b hb).1,fun hh=>absurd hh (hd t b hb)⟩)
 have hr:RdL w (fun b=>O b∧(b∈fp s→b∈fp1)) [V.fzAt n] [vals s] fp1:=by
  have:=s3 (fun b=>O b∧(b∈fp s→b∈fp1)) (fun b hb=>⟨(h.sim.fpO s b (s1 b hb)).1,fun _=>hb⟩) (fun b hb hn hh=>hn (hh.2 hb)) (fun b hb _ hh=>hb hh.1)
  rwa [Axz] at this
 have h3:=h2.put_own s (V.fzAt n) fp1 (by rw [Bl];simp [upF,A.mapR]) hr s2 (fun b hb1 t hb2=>hd t b hb2 (s1 b hb1))
 have e:look (Ak s (.val (V.fzAt n)) (Ak s .top σ))=upF (look (Ak s .top σ)) s (.val (V.fzAt n)):=by
  rw [Bl]
  funext t
  simp only [upF,Gw]
  split
  ·rfl
  ·rename_i ht
   rw [D1]
   simp only [Gw,if_neg ht]
   generalize look σ t=x
   have key : ∀r l,Ao s 0 r l=none∨Ao s 0 r l=some r:=by intro r l;unfold Ao;split<;>simp
   exact O3 (Ao s 0) key x
 rw [←e] at h3
 refine ⟨_,_,⟨h3,h.lo,h.hi,h.sz,h.df⟩,⟨rfl,rfl,rfl,Nat.le_refl _,?_,?_⟩⟩
 ·intro b _ hb
  exact ⟨rfl,⟨fun hh=>hh.1,fun hh=>⟨hh,fun hc=>absurd ⟨s,hc⟩ hb⟩⟩⟩
 rintro b ⟨t,ht⟩
 left
 simp only [upF] at ht
 split at ht
 ·exact ⟨s,s1 b ht⟩
 exact ⟨t,ht⟩
theorem Bo.frzd {P:Program} {o:Oper} {σ a w O gv N fp} {d:Nat} {U:V} (hd:d<100000) (h:Bo P o (Ak d (.val U) σ) a w O gv N fp):Bo P o (Ak d (.val U.fz) σ) a w O gv N fp:=by
 obtain ⟨v,w',O',vals',fp',h1,h2,h3⟩:=h
 obtain ⟨O2,fp2,k1,k2⟩:=Ad7 d h2
 have e0:d%100000=d:=Nat.mod_eq_of_lt hd
 have e1:d/100000=0:=Nat.div_eq_of_lt hd
 have hl:look (Ak d (.val U) σ) d = .val U:=by rw [Bl];simp [upF,A.mapR]
 have e2:look (Afr d (Ak d (.val U) σ))=look (Ak d (.val U.fz) σ):=by
  unfold Afr
  rw [e0,e1,hl]
  simp only [Al]
  rw [Bl,D1,Bl,Bl]
  funext t
  simp only [upF,Gw,A.mapR]
  by_cases ht:t=d
  ·simp [ht]
  ·simp only [if_neg ht]
   generalize (look σ t)=x
   have key : ∀r l,Ao d 0 r l=none∨Ao d 0 r l=some r:=by intro r l;unfold Ao;split<;>simp
   have:=O3 (Ao d 0) key x
   simp_all
 exact ⟨v,w',O2,vals',fp2,h1,⟨e2▸k1.sim,k1.lo,k1.hi,k1.sz,k1.df⟩,h3.trans k2⟩
def A1k (d m:Nat) (z:V) (x:A) (σ:St):Option St:=match x with
 | .val (.int _ n)=>if 0≤n∧n≤(LIM:Int) then some (Ak d (.val (V.sl true m (List.replicate n.toNat z.up)).fz) σ) else none
 | _=>none
theorem Axq {d m z x σ σ'} (h:A1k d m z x σ=some σ') : ∃U σ1,mkS d m z x σ=some (Ak d (.val U) σ1)∧σ'=Ak d (.val U.fz) σ1:=by
 unfold A1k at h
 split at h
 ·split at h
  ·rename_i hc;cases h;exact ⟨_,_,by simp only [mkS];rw [if_pos hc],rfl⟩
  cases h
 cases h
def Avo (d m:Nat) (xs:List A) (σ:St):Option St:=match Od σ xs with
 | some (Us,σ1)=>if Sd m Us then some (Ak d (.val (V.sl true m Us).fz) σ1) else none
 | none=>none
theorem Aue {d m xs σ σ'} (h:Avo d m xs σ=some σ') : ∃U σ1,Asy d m xs σ=some (Ak d (.val U) σ1)∧σ'=Ak d (.val U.fz) σ1:=by
 unfold Avo at h
 split at h
 ·rename_i hU
  split at h
  ·rename_i hc;cases h;exact ⟨_,_,by simp only [Asy,hU];rw [if_pos hc],rfl⟩
  cases h
 cases h
def Dz {κ β:Type} [DecidableEq κ]:List (κ×β)→κ→Option β
 | [],_=>none
 | (a,b)::r,k=>if k=a then some b else Dz r k
def L9 {κ β:Type} [DecidableEq κ]:List (κ×β)→κ→β→List (κ×β)
 | [],k,v=>[(k,v)]
 | (a,b)::r,k,v=>if k=a then (a,v)::r else (a,b)::L9 r k v
theorem Afa {κ β γ:Type} [DecidableEq κ] (f:β→γ) (k:κ) : ∀(l:List (κ×β)),Dz (l.map fun e=>(e.1,f e.2)) k=(Dz l k).map f
 | []=>rfl
 | (a,b)::r=>by
   simp only [List.map_cons,Dz]
   split
   ·rfl
   ·exact Afa f k r
theorem Ana {κ β γ:Type} [DecidableEq κ] (f:β→γ) (k:κ) (v:β) : ∀(l:List (κ×β)),L9 (l.map fun e=>(e.1,f e.2)) k (f v)=(L9 l k v).map fun e=>(e.1,f e.2)
 | []=>rfl
 | (a,b)::r=>by
   simp only [List.map_cons,L9]
   split
   ·rfl
   ·simp only [List.map_cons];rw [Ana f k v r]
def Lf.v:Lf→V
 | .int k n=> .int k n
 | .bool b=> .bool b
 | .str s=> .str s
def vLf:V→Option Lf
 | .int k n=>some (.int k n)
 | .bool b=>some (.bool b)
 | .str s=>some (.str s)
 | _=>none
theorem Lf.rd (w:World) (O:Nat→Prop) (x:Lf):RdL w O [x.v] [x.val] []∧x.v.hasOwn=false:=by
 cases x with
 | int k n=>exact ⟨.leaf (.int _ _) .nil,rfl⟩
 | bool b=>exact ⟨.leaf (.bool _) .nil,rfl⟩
 | str s=>exact ⟨.leaf (.str _) .nil,rfl⟩
theorem Ayc {w O u x v fp} (h:RdL w O [u] [v] fp) (hx:vLf u=some x):v=x.val:=by
 cases u<;>simp [vLf] at hx<;>subst hx
 ·exact B4 h
 ·exact D3 h
 exact J8 h
theorem Lf.wide (x:Lf):x.val.oneCell'=true:=by cases x<;>rfl
structure KKind {κ:Type} (kv:κ→Value) (d:TypeDesc):Prop where
 key : ∀a,Go.MapKept.IsKey d (kv a)
 inj : ∀a b,kv a=kv b→a=b
theorem kkS:KKind (fun s=>Value.string s) .string:=⟨fun _=>trivial,fun _ _ h=>by cases h;rfl⟩
theorem kkI:KKind (fun n=>Value.int .i64 n) (.int .i64):=⟨fun _=>rfl,fun _ _ h=>by cases h;rfl⟩
def Yj {κ:Type} (kv:κ→Value) (L:List MapEntry) (es:List (κ×Lf)):Prop:=L.map (fun e=>(e.key,e.val))=es.map fun e=>(kv e.1,e.2.val)
theorem Aa6 {κ:Type} [DecidableEq κ] {kv:κ→Value} {dk:TypeDesc} (hk0:KKind kv dk) (k:κ) : ∀(L:List MapEntry) (es:List (κ×Lf)) (i:Nat),Yj kv L es →
  (Dz es k=none∧Instr.findNow dk (kv k) L i=some none ∧ ∀v,L9 es k v=es++[(k,v)]) ∨
  ∃j b e,Dz es k=some b∧Instr.findNow dk (kv k) L i=some (some (i+j,b.val))∧L[j]? = some e∧e.key=kv k ∧
    ∀v:Lf,Yj kv (L.modify j fun e=>{ e with key:=kv k,val:=v.val }) (L9 es k v)
 | [],es,i,h=>by
   have:es=[]:=by
    cases es with
    | nil=>rfl
    | cons a r=>simp [Yj] at h
   subst this
   exact .inl ⟨rfl,rfl,fun _=>rfl⟩
 | e::L,es,i,h=>by
   cases es with
   | nil=>simp [Yj] at h
   | cons a es=>
     obtain ⟨a1,a2⟩:=a
     simp only [Yj,List.map_cons,List.cons.injEq,Prod.mk.injEq] at h
     obtain ⟨⟨h1,h2⟩,h3⟩:=h
     obtain ⟨r,hr,hiff⟩:=Go.MapKept.sameNow_of_keys (hk0.key k) (hk0.key a1)
     by_cases hk:k=a1
     ·subst hk
      refine .inr ⟨0,a2,e,by simp [Dz],?_,rfl,h1,fun v=> ?_⟩
      ·have:r=true:=hiff.2 rfl
       subst this
       simp [Instr.findNow,h1,h2,hr]
      ·simp only [Yj,L9,if_true,List.modify_zero_cons,List.map_cons,List.cons.injEq,true_and]
       exact h3
     ·have hb:r=false:=by
       cases r with
       | false=>rfl
       | true=>exact absurd (hk0.inj _ _ (hiff.1 rfl)) hk
      subst hb
      rcases Aa6 hk0 k L es (i+1) h3 with ⟨g1,g2,g3⟩ | ⟨j,b,e',g1,g2,g3,g4,g5⟩
      ·refine .inl ⟨by simp [Dz,hk,g1],by simp [Instr.findNow,h1,hr,g2],fun v=> ?_⟩
       simp only [L9,if_neg hk,g3,List.cons_append]
      ·refine .inr ⟨j+1,b,e',by simp [Dz,hk,g1],?_,by simpa using g3,g4,fun v=> ?_⟩
       ·simp [Instr.findNow,h1,hr,g2];omega
       ·have:=g5 v
        simp only [Yj] at this ⊢
        simp only [L9,if_neg hk,List.modify_succ_cons,List.map_cons,h1,h2]
        rw [this]
def mpA (σ:St):A→Option Es
 | .val (.mp o es)=>if o then none else some es
 | .ref r p=>match B0 σ r p with
   | some (.mp _ es)=>some es
   | _=>none
 | _=>none
theorem Ayh {w O o es v fp} (h:RdL w O [.mp o es] [v] fp) : ∃b ents ck,v = .map (some b)∧w.heap[b]? = some (.map ents ck)∧ents.toList.map (fun e=>(e.key,e.val))=es.vals∧(o=true→O b∧fp=[b])∧(o=false→¬O b∧fp=[]):=by
 cases h with
 | leaf hl _=>cases hl
 | grp hg _ _=>cases hg
 | fblk hh _ _ _ _=>cases hh
 | oblk hh _ _ _ _ _=>cases hh
 | mpf hb he hO t=>cases t;exact ⟨_,_,_,rfl,hb,he,fun e=>Bool.noConfusion e,fun _=>⟨hO,rfl⟩⟩
 | mpo hb he hO t=>cases t;exact ⟨_,_,_,rfl,hb,he,fun _=>⟨hO,rfl⟩,fun e=>Bool.noConfusion e⟩
theorem A3u {σ a w O gv N vals fp} (h:Ok σ a w O gv N vals fp) {x:A} {v:Value} {es:Es} (hr:RelL w O (look σ) vals [x] [v]) (hm:mpA σ x=some es) :
  ∃b ents ck,v = .map (some b)∧w.heap[b]? = some (.map ents ck)∧ents.toList.map (fun e=>(e.key,e.val))=es.vals:=by
 cases hr with
 | top _=>simp [mpA] at hm
 | rfv _ _ _ _=>simp [mpA] at hm
 | agg _ _=>simp [mpA] at hm
 | clo _ _=>simp [mpA] at hm
 | addr _ _ _ _ _ _=>simp [mpA] at hm
 | fad _ _ _ _=>simp [mpA] at hm
 | @val y _ _ _ hn hr _=>
   cases y<;>simp [mpA] at hm
   obtain ⟨_,rfl⟩:=hm
   obtain ⟨b,ents,ck,e1,e2,e3,_⟩:=Ayh hr
   exact ⟨b,ents,ck,e1,e2,e3⟩
 | @ref r p T u _ _ _ hL hs hv _=>
   simp only [mpA,B0,hL,hs] at hm
   cases u<;>simp at hm
   subst hm
   obtain ⟨x,fp1,fpu,fp2,_,hx,hru,_⟩:=ctx p (h.sim.own r T hL) hs
   rw [hv] at hx;cases hx
   obtain ⟨b,ents,ck,e1,e2,e3,_⟩:=Ayh hru
   exact ⟨b,ents,ck,e1,e2,e3⟩
def A0i:Bool→Es
 | false=> .s []
 | true=> .i []
theorem Axp (kd:Bool):(A0i kd).vals=[]:=by cases kd<;>rfl
def A4u (d:Nat) (kd:Bool) (σ:St):Option St:=some (Ak d (.val (.mp true (A0i kd))) σ)
theorem A3m {P:Program} {o:Oper} {σ a w O gv N vals fp} {d:Nat} {kd:Bool} {t:TypeId} (h:Ok σ a w O gv N vals fp) (ho:o.op = .makeMap t none) (hd:o.dst=some d) (hN:d<N):Bo P o (Ak d (.val (.mp true (A0i kd))) σ) a w O gv N fp:=by
 let w':=w.alloc (.map #[] 0)
 let O':Nat→Prop:=fun b=>O b∨b=w.heap.size
 have hw:w'.heap=w.heap.push (.map #[] 0):=rfl
 have hold : ∀b,b<w.heap.size→w'.heap[b]? = w.heap[b]? := fun b hb=>by rw [hw];exact Om w _ b hb
 have hstill:Iq w O w' O':=fun b hb hlt=>⟨hold b hlt,by simp [O'];exact ⟨hb,by omega⟩⟩
 have hlt1 : ∀b,Sof fp b→O b∧b<w.heap.size:=fun b ⟨s,hs⟩=>h.sim.fpO s b hs
 have o1:Ok σ a w' O' gv N vals fp:=h.world hstill fun b hb=>⟨hold b (hlt1 b hb).2,.inl (hlt1 b hb).1⟩
 have hblk:w'.heap[w.heap.size]? = some (.map #[] 0):=by rw [hw];simp
 have hread:RdL w' O' [.mp true (A0i kd)] [.map (some w.heap.size)] [w.heap.size]:= .mpo hblk (Axp kd).symm (.inr rfl) .nil
 obtain ⟨fp',o2,s2⟩:=o1.put_own hN hread (by simp) (by
  intro b hb hb1
  rw [List.mem_singleton.1 hb] at hb1
  have:=(hlt1 _ hb1).2;omega)
 refine ⟨.map (some w.heap.size),w',O',_,fp',.inl (by simp [execOp,ho,Instr.makeMap,w',Result.andThen]),by rw [hd];exact o2,⟨rfl,rfl,rfl,by rw [hw];simp,?_,?_⟩⟩
 ·intro b hb _
  exact ⟨hold b hb,by simp [O'];omega⟩
 intro b hb
 rcases s2 b hb with h | h
 ·exact .inl h
 rw [List.mem_singleton.1 h];exact .inr (Nat.le_refl _)
def As9 {κ:Type} [DecidableEq κ] (es:List (κ×Lf)) (k:κ) (z:Lf) (ok:Bool):V:=if ok then .tup [((Dz es k).getD z).v,.bool (Dz es k).isSome] else ((Dz es k).getD z).v
def A2c (kd:Bool) (es:Es) (k:V) (z:Lf) (ok:Bool):Option V:=match kd,es,k with
 | false,.s es,.str s=>some (As9 es s z ok)
 | true,.i es,.int .i64 n=>some (As9 es n z ok)
 | _,_,_=>none
def kdD:Bool→TypeDesc
 | false=> .string
 | true=> .int .i64
def A1h (d:Nat) (x k:A) (z:Lf) (ok kd:Bool) (σ:St):Option St:=match mpA σ x,Do k with
 | some es,some u=>(A2c kd es u z ok).map fun v=>Ak d (.val v) σ
 | _,_=>none
theorem Avz {κ:Type} [DecidableEq κ] {kv:κ→Value} {dk:TypeDesc} (hk0:KKind kv dk) {P:Program} {o:Oper} {σ a w O gv N vals fp} {d:Nat} {t kt et x' k' z ok} {fi:TypeInfo} {es:List (κ×Lf)} {s:κ} {b:Nat} {ents:Array MapEntry} {ck:Nat} (h:Ok σ a w O gv N vals fp) (ho:o.op = .lookup t x' k' ok) (hd:o.dst=some d) (hN:d<N)
  (ht:P.underlying t=some (.map kt et)) (hkt:P.underlying kt=some dk) (hi:P.info? et=some fi) (hz:fi.zero=some z.val)
  (e1:a.eval x' = .map (some b)) (e2:w.heap[b]? = some (.map ents ck)) (e3:Yj kv ents.toList es) (ek:a.eval k'=kv s):Bo P o (Ak d (.val (As9 es s z ok)) σ) a w O gv N fp:=by
 have hrd:=(Lf.rd w O ((Dz es s).getD z))
 have hval:RelL w O (look σ) vals [.val (As9 es s z ok)] [if ok=true then .tuple #[((Dz es s).getD z).val,.bool (Dz es s).isSome] else ((Dz es s).getD z).val]:=by
  unfold As9
  cases ok with
  | false=>simp only [Bool.false_eq_true,if_false];exact .val hrd.2 hrd.1 .nil
  | true=>
    simp only [if_true]
    refine .val (by simp [V.hasOwn,A4,hrd.2]) ?_ .nil
    have:=RdL.grp (.tup [((Dz es s).getD z).v,.bool (Dz es s).isSome] [((Dz es s).getD z).val,.bool (Dz es s).isSome]) (hrd.1.cons_join (.leaf (.bool _) .nil)) (.nil (w:=w) (O:=O))
    simpa using this
 refine .rel h hd hN hval ?_
 have hck:=Go.MapKept.run_checkKey (P:=P) (w:=w) (kt:=kt) (d:=dk) (k:=kv s) hkt (hk0.key s) ents.isEmpty 9999
 rcases Aa6 hk0 s ents.toList es 0 e3 with ⟨g1,g2,_⟩ | ⟨j,lb,e,g1,g2,_,_,_⟩
 ·have hf:=Go.MapKept.run_findKey (P:=P) (w:=w) hkt g2
  simp [execOp,ho,e1,ek,Instr.lookup,run_underlying ht,Go.MapKept.run_getObj_map e2,hck,hf,zeroValue,typeInfo,hi,hz,g1,Result.andThen]
 have hf:=Go.MapKept.run_findKey (P:=P) (w:=w) hkt g2
 simp [execOp,ho,e1,ek,Instr.lookup,run_underlying ht,Go.MapKept.run_getObj_map e2,hck,hf,g1,Result.andThen]
theorem A35 {P:Program} {o:Oper} {σ σ' a w O gv N vals fp} {d:Nat} {t kt et x x' k k' z ok zv} {kd:Bool} {fi:TypeInfo} (h:Ok σ a w O gv N vals fp) (ho:o.op = .lookup t x' k' ok) (hd:o.dst=some d) (hN:d<N)
  (ht:P.underlying t=some (.map kt et)) (hkt:P.underlying kt=some (kdD kd)) (hi:P.info? et=some fi) (hz:fi.zero=some zv) (hc:cRd z.v zv=true)
  (hx:Au N x x'=true) (hk:Au N k k'=true) (hs:A1h d (Ai σ x) (Ai σ k) z ok kd σ=some σ'):Bo P o σ' a w O gv N fp:=by
 simp only [A1h] at hs
 split at hs
 case h_2=>cases hs
 rename_i es u hes hu
 obtain ⟨b,ents,ck,e1,e2,e3⟩:=A3u h (Ap h hx) hes
 obtain ⟨ru,_⟩:=Ko (Ap h hk) hu
 have ezv:zv=z.val:=Ayc (Akp w O z.v zv hc).1 (by cases z<;>rfl)
 subst ezv
 obtain ⟨v,hv,rfl⟩:=Option.map_eq_some_iff.1 hs
 unfold A2c at hv
 split at hv
 ·cases hv;exact Avz kkS h ho hd hN ht hkt hi hz e1 e2 e3 (J8 ru)
 ·cases hv;exact Avz kkI h ho hd hN ht hkt hi hz e1 e2 e3 (B4 ru)
 cases hv
def Es.len:Es→Nat
 | .s l=>l.length
 | .i l=>l.length
def A4j (kd:Bool) (es:Es) (k:V) (x:Lf):Option Es:=match kd,es,k with
 | false,.s es,.str s=>some (.s (L9 es s x))
 | true,.i es,.int .i64 n=>some (.i (L9 es n x))
 | _,_,_=>none
def A1q (m k v:A) (kd:Bool) (σ:St):Option St:=match m with
 | .ref r p=>match look σ r with
   | .val T=>match sub p T with
     | some (.mp true es)=>match Do k,(Do v).bind vLf with
       | some u,some x=>match A4j kd es u x with
         | some es'=>match upd p T (.mp true es') with
           | some T'=>some (Hq r T' (p.length+1) σ)
           | none=>none
         | none=>none
       | _,_=>none
     | _=>none
   | _=>none
 | _=>none
theorem Aza {P:Program} {o:Oper} {σ σ' a w O gv N vals fp} {t kt et m m' k k' v v'} {kd:Bool} (h:Ok σ a w O gv N vals fp) (ho:o.op = .mapUpdate t m' k' v'∨o.op = .insert t m' k' v') (hd:o.dst=none)
  (ht:P.underlying t=some (.map kt et)) (hkt:P.underlying kt=some (kdD kd))
  (hm:Au N m m'=true) (hk:Au N k k'=true) (hv:Au N v v'=true) (hs:A1q (Ai σ m) (Ai σ k) (Ai σ v) kd σ=some σ'):Bo P o σ' a w O gv N fp:=by
 have hrel:=Ap h hm
 simp only [A1q] at hs
 split at hs
 case h_2=>cases hs
 rename_i r p em
 split at hs
 case h_2=>cases hs
 rename_i T hT
 split at hs
 case h_2=>cases hs
 rename_i es hnd
 split at hs
 case h_2=>cases hs
 rename_i u x hu hxx
 split at hs
 case h_2=>cases hs
 rename_i es' hes'
 split at hs
 case h_2=>cases hs
 rename_i T' hT'
 cases hs
 obtain ⟨ru,_⟩:=Ko (Ap h hk) hu
 obtain ⟨u2,hu2,hus2⟩:=Option.bind_eq_some_iff.1 hxx
 obtain ⟨ru2,_⟩:=Ko (Ap h hv) hu2
 have ev:=Ayc ru2 hus2
 rw [em] at hrel
 cases hrel with
 | @ref _ _ T2 nd _ _ _ hL hs2 hval _=>
 rw [hT] at hL;cases hL
 rw [hnd] at hs2;cases hs2
 have hR:=h.sim.own r T hT
 obtain ⟨x0,f1,fu,f2,efp,hx0,hru,hset⟩:=ctx p hR hnd
 rw [hval] at hx0;cases hx0
 obtain ⟨b,ents,ck,e1,e2,e3,e4,_⟩:=Ayh hru
 obtain ⟨hO,rfl⟩:=e4 rfl
 have hbr:b∈fp r:=by rw [efp];simp
 have hnodup:=h.sim.nd r
 rw [efp] at hnodup
 have nd1:=List.nodup_append.1 hnodup
 have nd2:=List.nodup_append.1 nd1.2.1
 have key : ∀(ents':Array MapEntry) (ck':Nat),ents'.toList.map (fun e=>(e.key,e.val))=es'.vals→(execOp a.eval o).run P w = .ok .skip { w with heap:=w.heap.setIfInBounds b (.map ents' ck') }→Bo P o (Hq r T' (p.length+1) σ) a w O gv N fp:=by
  intro ents' ck' hents hrun
  let w':World:={ w with heap:=w.heap.setIfInBounds b (.map ents' ck') }
  obtain ⟨hb',hother⟩:=Go.MapKept.heap_set (o':= .map ents' ck') e2
  have hstill:Iq w O w' O:=fun q hq _=>⟨hother q (fun e=>hq (e▸hO)),hq⟩
  have hnode':RdL w' O [.mp true es'] [a.eval m'] [b]:=by rw [e1];exact .mpo hb' hents hO .nil
  have hrest : ∀q∈f1++f2,w'.heap[q]? = w.heap[q]? ∧ O q:=by
   intro q hq
   have hqr:q∈fp r:=by rw [efp];simp at hq ⊢;rcases hq with h | h<;>simp [h]
   refine ⟨hother q ?_,(h.sim.fpO r q hqr).1⟩
   rintro rfl
   rcases List.mem_append.1 hq with h | h
   ·exact nd1.2.2 q h q (by simp) rfl
   ·exact nd2.2.2 q (by simp) q h rfl
  have hRT:=hset w' O T' _ [b] hT' hrest hstill hnode'
  have hsim:=h.sim.turn r (p.length+1) T T' _ hT hstill (fun s hs q hq=>⟨hother q (by rintro rfl;exact hs (h.sim.dj s r q hq hbr)),(h.sim.fpO s q hq).1⟩) hRT hnodup
   (by
    intro q hq s hs hqs
    exact hs (h.sim.dj s r q hqs (by rw [efp];exact hq)))
   (by
    intro q u v hlt hq hvq
    obtain ⟨u2,h2,h3⟩:=Adp p q hq hnd hT' (by omega) (fun _ hn=>by simp [V.node] at hn)
    refine ⟨u2,h2,h3,?_⟩
    rw [So p q hR (h.sim.nd r) hnd hq (by omega) hval hru (fun z hz hzn=>hother z (by rintro rfl;exact hzn (by simp)))]
    exact hvq)
  rw [←J9 hT] at hsim
  refine ⟨undef,w',O,vals,upF fp r (f1++([b]++f2)),.inr ⟨hrun,rfl⟩,?_,?_⟩
  ·rw [hd]
   exact ⟨hsim,h.lo,h.hi,h.sz,h.df⟩
  ·refine ⟨rfl,rfl,rfl,by simp [w'],?_,?_⟩
   ·intro q _ hq
    exact ⟨hother q (by rintro rfl;exact hq ⟨r,hbr⟩),.rfl⟩
   ·rintro q ⟨s,hs⟩
    left
    simp only [upF] at hs
    split at hs
    ·exact ⟨r,by rw [efp];exact hs⟩
    ·exact ⟨s,hs⟩
 have fin : ∀ {κ:Type} [DecidableEq κ] {kv:κ→Value} (_:KKind kv (kdD kd)) {l:List (κ×Lf)} {s:κ},Yj kv ents.toList l→a.eval k'=kv s →
   (∀(ents':Array MapEntry),Yj kv ents'.toList (L9 l s x)→ents'.toList.map (fun e=>(e.key,e.val))=es'.vals)→Bo P o (Hq r T' (p.length+1) σ) a w O gv N fp:=by
  intro κ _ kv hk0 l s e3 ek hgo
  have hck:=Go.MapKept.run_checkKey (P:=P) (w:=w) (kt:=kt) (d:=kdD kd) (k:=kv s) hkt (hk0.key s) false 9999
  rcases Aa6 hk0 s ents.toList l 0 e3 with ⟨g1,g2,g3⟩ | ⟨j,lb,e,g1,g2,g4,g5,g6⟩
  ·have hf:=Go.MapKept.run_findKey (P:=P) (w:=w) hkt g2
   refine key (ents.push { key:=kv s,val:=x.val,born:=ck }) (ck+1) (hgo _ ?_) ?_
   ·rw [g3];simp only [Yj,Array.toList_push,List.map_append,List.map_cons,List.map_nil];rw [e3]
   ·rcases ho with ho | ho<;>simp [execOp,ho,e1,ek,ev,Instr.mapUpdate,run_underlying ht,Go.MapKept.run_getObj_map e2,hck,hf,Go.MapKept.run_setObj_map _ e2,Result.andThen]
  ·have hf:=Go.MapKept.run_findKey (P:=P) (w:=w) hkt g2
   have hkey:(((ents[j]?).map (·.key)).getD (kv s))=kv s:=by
    rw [←Array.getElem?_toList,g4];exact g5
   have hstay:=Go.MapKept.run_keyThatStays (P:=P) (w:=w) (d:=kdD kd) (k:=kv s) (hk0.key s)
   refine key (ents.modify j fun e=>{ e with key:=kv s,val:=x.val }) ck (hgo _ ?_) ?_
   ·rw [Array.toList_modify];exact g6 x
   ·rcases ho with ho | ho
    ·simp [execOp,ho,e1,ek,ev,Instr.mapUpdate,run_underlying ht,Go.MapKept.run_getObj_map e2,hck,hf,Result.andThen]
     rw [hkey,hstay]
     simp [Go.MapKept.run_setObj_map _ e2]
    ·simp [execOp,ho,e1,ek,ev,Instr.mapUpdate,run_underlying ht,Go.MapKept.run_getObj_map e2,hck,hf,Result.andThen]
     rw [hkey,hstay]
     simp [Go.MapKept.run_setObj_map _ e2]
 unfold A4j at hes'
 split at hes'
 ·cases hes';exact fin kkS e3 (J8 ru) fun _ h=>h
 ·cases hes';exact fin kkI e3 (B4 ru) fun _ h=>h
 cases hes'
def Xp (ns:List Int):ByteArray:=ns.foldl (fun r n=>r.push (UInt8.ofNat n.toNat)) ByteArray.empty
def P2:List V→Option (List Int)
 | []=>some []
 | .int k n::r=>if k = .u8 then (P2 r).map (n :: ·) else none
 | _=>none
theorem Aum (ns:List Int):P2 (ns.map (V.int .u8))=some ns:=by
 induction ns with
 | nil=>rfl
 | cons n r ih=>simp [P2,ih]
theorem An1 {w O} : ∀ {xs:List V} {ns:List Int} {vch fp},P2 xs=some ns→RdL w O (Ay xs) vch fp→vch=ns.map (Value.int .u8)∧ns.length=xs.length:=by
 intro xs
 induction xs with
 | nil=>intro ns vch fp h hr;simp [P2] at h;subst h;simp only [Ay] at hr;cases hr;exact ⟨rfl,rfl⟩
 | cons x r ih=>
   intro ns vch fp h hr
   cases x<;>simp [P2] at h
   rename_i k n
   obtain ⟨rfl,ms,h1,rfl⟩:=h
   simp only [Ay,V.cells,List.cons_append,List.nil_append] at hr
   obtain ⟨v,vs2,f1,f2,rfl,rfl,r1,r2⟩:=hr.cons_split
   obtain ⟨e1,e2⟩:=ih h1 r2
   exact ⟨by rw [B4 r1,e1];rfl,by simp [e2]⟩
def slA (σ:St):A→Option (Nat×List V)
 | .val (.sl o m xs)=>if o then none else some (m,xs)
 | .ref r p=>match B0 σ r p with
   | some (.sl _ m xs)=>some (m,xs)
   | _=>none
 | _=>none
theorem A3d {σ a w O gv N vals fp} (h:Ok σ a w O gv N vals fp) {x:A} {v:Value} {m:Nat} {xs:List V} (hr:RelL w O (look σ) vals [x] [v]) (hm:slA σ x=some (m,xs)) : ∃o fp1,RdL w O [.sl o m xs] [v] fp1:=by
 cases hr with
 | top _=>simp [slA] at hm
 | rfv _ _ _ _=>simp [slA] at hm
 | agg _ _=>simp [slA] at hm
 | clo _ _=>simp [slA] at hm
 | addr _ _ _ _ _ _=>simp [slA] at hm
 | fad _ _ _ _=>simp [slA] at hm
 | @val y _ _ _ hn hr _=>
   cases y<;>simp [slA] at hm
   obtain ⟨_,rfl,rfl⟩:=hm
   exact ⟨_,_,hr⟩
 | @ref r p T u _ _ _ hL hs hv _=>
   simp only [slA,B0,hL,hs] at hm
   cases u<;>simp at hm
   obtain ⟨rfl,rfl⟩:=hm
   obtain ⟨x,fp1,fpu,fp2,_,hx,hru,_⟩:=ctx p (h.sim.own r T hL) hs
   rw [hv] at hx;cases hx
   exact ⟨_,_,hru⟩
theorem Aye {w O o xs v fp ns} (h:RdL w O [.sl o 1 xs] [v] fp) (hb:P2 xs=some ns) : ∃q c,v = .slice q ns.length c∧(q=none→ns=[]) ∧ ∀a,q=some a → ∀j u,(ns.map (Value.int .u8))[j]? = some u→w.cell? (a.add j)=some u:=by
 cases h with
 | leaf hl _=>
   cases hl<;>(simp [P2] at hb;subst hb)
   ·exact ⟨none,0,rfl,fun _=>rfl,fun a e=>by cases e⟩
   ·exact ⟨_,0,rfl,fun _=>rfl,fun a _ j u hj=>by simp at hj⟩
   ·exact ⟨none,0,rfl,fun _=>rfl,fun a e=>by cases e⟩
 | grp hg _ _=>cases hg
 | fblk hh hc hO s _=>
   cases hh with
   | sl _ _ _ b off cap hm hcap=>
     obtain ⟨e1,e2⟩:=An1 hb s
     refine ⟨_,cap,by rw [e2],fun e=>by (cases e),fun a ha j u hj=> ?_⟩
     cases ha
     rw [G9,hc j (by rw [e1];exact (List.getElem?_eq_some_iff.1 hj).1),e1,hj]
 | @oblk _ _ b k ch arr e fp1 _ _ fp2 hh hb2 hO hk s _=>
   cases hh with
   | sl _ _ _ _ _ cap hm hcap=>
     obtain ⟨e1,e2⟩:=An1 hb s
     refine ⟨_,cap,by rw [e2],fun e=>by (cases e),fun a ha j u hj=> ?_⟩
     cases ha
     have hj':=hj
     rw [←e1,List.getElem?_take] at hj'
     split at hj'
     ·rw [G9];simp [World.cell?,hb2];rw [←Array.getElem?_toList];exact hj'
     ·cases hj'
def Avh (d:Nat) (x:A) (σ:St):Option St:=match slA σ x with
 | some (m,xs)=>if m=1 then (P2 xs).map fun ns=>Ak d (.val (.str (Xp ns))) σ else none
 | none=>none
theorem A1v {P:Program} {o:Oper} {σ σ' a w O gv N vals fp} {d:Nat} {s t e x x'} (h:Ok σ a w O gv N vals fp) (ho:o.op = .convert s t x') (hd:o.dst=some d) (hN:d<N)
  (hsrc:P.underlying s=some (.slice e)) (he:P.underlying e=some (.int .u8)) (hdst:P.underlying t=some .string) (hx:Au N x x'=true) (hs:Avh d (Ai σ x) σ=some σ'):Bo P o σ' a w O gv N fp:=by
 simp only [Avh] at hs
 split at hs
 case h_2=>cases hs
 rename_i m xs hsl
 split at hs
 case isFalse=>cases hs
 rename_i hm
 subst hm
 obtain ⟨ns,hb,rfl⟩:=Option.map_eq_some_iff.1 hs
 obtain ⟨o',fp1,hr⟩:=A3d h (Ap h hx) hsl
 obtain ⟨q,c,e1,e2,e3⟩:=Aye hr hb
 refine .rel h hd hN (.val rfl (.leaf (.str (Xp ns)) .nil) .nil) ?_
 have hrun:(Conv.bytesToString (.slice q ns.length c)).run P w = .ok (.string (Xp ns)) w:=by
  cases q with
  | none=>rw [e2 rfl];rfl
  | some a1=>
    refine run_bytesToString w a1 ns.length c ns ?_
    have:=run_loadCells_list (P:=P) (w:=w) a1 (ns.map (Value.int .u8)) (e3 a1 rfl)
    simpa using this
 simp [execOp,ho,e1,run_convert_bytes_string w s t e q ns.length c hsrc he hdst,hrun,Result.andThen]
end Go.Proofs.Ytmmcfdfdacpjgaa.Ax
namespace Go.Proofs.Ytmmcfdfdacpjgaa.Ax
open Go
def V.isBool:V→Bool
 | .bool _=>true
 | _=>false
def A3h (d:Nat) (op:BinOp) (x y:A) (σ:St):Option St:=match Do x with
 | some u=>if u.isBool then none else Axo d op x y σ
 | none=>none
noncomputable def Cm:AOp→St→Option St
 | .mov d x,σ=>some (Ak d (upA (Ai σ x)) σ)
 | .asg d x,σ=>Aq5 d (Ai σ x) σ
 | .asgf d x,σ=>A0d d (Ai σ x) σ
 | .slc d m x lo hi,σ=>Aul d m (Ai σ x) (lo.map (Ai σ)) (hi.map (Ai σ)) σ
 | .pick d c x y,σ=>Anr d (Ai σ c) (Ai σ x) (Ai σ y) σ
 | .bin d op x y,σ=>A3h d op (Ai σ x) (Ai σ y) σ
 | .binb d op x y,σ=>Axo d op (Ai σ x) (Ai σ y) σ
 | .un d op x,σ=>unS d op (Ai σ x) σ
 | .cnv d k x,σ=>A2o d k (Ai σ x) σ
 | .len d x,σ=>A4c d (Ai σ x) σ
 | .slen d x,σ=>Ar8 d (Ai σ x) σ
 | .sidx d x i,σ=>Au0 d (Ai σ x) (Ai σ i) σ
 | .max d x y,σ=>A3t d (Ai σ x) (Ai σ y) σ
 | .ext d x i,σ=>Ata d (Ai σ x) i σ
 | .iad d m x i,σ=>Azu d m (Ai σ x) (Ai σ i) σ
 | .fadr d off x,σ=>Avq d off (Ai σ x) σ
 | .ld d n ag x,σ=>ldS d n ag (Ai σ x) σ
 | .st n x v,σ=>Aoh σ n x v
 | .box d x,σ=>A1z d (Ai σ x) σ
 | .alc d z,σ=>A1b d z σ
 | .mk d m z x,σ=>mkS d m z (Ai σ x) σ
 | .mkc d m _ x,σ=>Axv d m (Ai σ x) σ
 | .bsl d m ps,σ=>Asy d m (ps.map (Ai σ)) σ
 | .mkr d m z x,σ=>A1k d m z (Ai σ x) σ
 | .bslr d m ps,σ=>Avo d m (ps.map (Ai σ)) σ
 | .bld d z ps,σ=>A2p d z ps σ
 | .app d m x y,σ=>Aww d m x y σ
 | .nck d x,σ=>A16 d (Ai σ x) σ
 | .mkf d f cs,σ=>some (Ak d (A2k f (cs.map (Ai σ))) σ)
 | .mkm d kd,σ=>A4u d kd σ
 | .mlk d x k z ok kd,σ=>A1h d (Ai σ x) (Ai σ k) z ok kd σ
 | .mup m k v kd,σ=>A1q (Ai σ m) (Ai σ k) (Ai σ v) kd σ
 | .bstr d x,σ=>Avh d (Ai σ x) σ
 | .apf d m x y e,σ=>A1w d m (Ai σ x) (Ai σ y) e σ
 | _,_=>none
def Arc (P:Program) (kd:Bool) (t:TypeId):Option TypeInfo:=match P.underlying t with
 | some (.map k e)=>(match kd,P.underlying k with
   | false,some .string=>P.info? e
   | true,some (.int .i64)=>P.info? e
   | _,_=>none)
 | _=>none
theorem Aa2 {P:Program} {kd:Bool} {t:TypeId} {fi:TypeInfo} (h:Arc P kd t=some fi) : ∃k e,P.underlying t=some (.map k e)∧P.underlying k=some (kdD kd)∧P.info? e=some fi:=by
 unfold Arc at h
 split at h
 case h_2=>cases h
 rename_i k e h1
 split at h
 ·rename_i h2;exact ⟨k,e,h1,h2,h⟩
 ·rename_i h2;exact ⟨k,e,h1,h2,h⟩
 cases h
def Jx (P:Program) (t:TypeId):Option TypeInfo:=match P.underlying t with
 | some (.slice e)=>P.info? e
 | _=>none
def Apj (P:Program) (t:TypeId) (i:Nat):Option (Nat×TypeInfo):=match P.underlying t with
 | some (.struct fs)=>match fs[i]? with
   | some f=>(P.info? f.type).map (f.offset,·)
   | none=>none
 | _=>none
def Qe (i:TypeInfo) (z:V):Bool:=match i.zero with
 | some v=>cRd z v
 | none=>false
def Au1 (P:Program) (m:Nat) (lo hi:Option X) (lo' hi':Option Operand) (t:TypeId):Bool:=match lo,hi,lo',hi' with
 | none,some (.c (.bool true)),none,none=>(match P.underlying t with
   | some (.array n e)=>Nat.beq m (1000000+n)&&(match P.info? e with | some fi=>fi.size==1 | none=>false)
   | _=>false)
 | _,_,_,_=>false
def Be (P:Program) (N:Nat) (o:Oper):AOp→Bool
 | .mov d x=>o.dst==some d&&decide (d<N)&&(match o.op with | .move x'=>Au N x x' | .assign x'=>Au N x x' | _=>false)
 | .asg d x=>o.dst==some d&&decide (d<N)&&(match o.op with | .move x'=>Au N x x' | .assign x'=>Au N x x' | _=>false)
 | .asgf d x=>o.dst==some d&&decide (d<N)&&(match o.op with | .move x'=>Au N x x' | .assign x'=>Au N x x' | _=>false)
 | .slc d m x lo hi=>o.dst==some d&&decide (d<N)&&(match o.op with
   | .slice t x' lo' hi' none=>Au N x x'&&((Uv N lo lo'&&Uv N hi hi'&&decide (m<1000000)&&(match Jx P t with | some fi=>fi.size==m | none=>false)) || Au1 P m lo hi lo' hi' t)
   | _=>false)
 | .pick d c x y=>o.dst==some d&&decide (d<N)&&(match o.op with | .pick c' x' y'=>Au N c c'&&Au N x x'&&Au N y y' | _=>false)
 | .bin d op x y=>o.dst==some d&&decide (d<N)&&(match o.op with | .binOp op' _ x' y' _=>op'==op&&Au N x x'&&Au N y y' | _=>false)
 | .binb d op x y=>o.dst==some d&&decide (d<N)&&(match o.op with | .binOp op' t x' y' _=>op'==op&&Au N x x'&&Au N y y'&&(match P.underlying t with | some .bool=>true | _=>false) | _=>false)
 | .un d op x=>o.dst==some d&&decide (d<N)&&(match o.op with | .unOp op' _ x'=>op'==op&&Au N x x' | _=>false)
 | .cnv d k x=>o.dst==some d&&decide (d<N)&&(match o.op with
   | .convert s t x'=>Au N x x'&&(match P.underlying s with | some (.int _)=>true | _=>false)&&(match P.underlying t with | some (.int k')=>k'==k | _=>false)
   | _=>false)
 | .len d x=>o.dst==some d&&decide (d<N)&&(match o.op with
   | .call { callee:= .builtin .len,args,argTypes }=>(match args.toList,argTypes.toList with | [x'],[t]=>Au N x x'&&(match P.underlying t with | some (.slice _)=>true | _=>false) | _,_=>false)
   | _=>false)
 | .slen d x=>o.dst==some d&&decide (d<N)&&(match o.op with
   | .call { callee:= .builtin .len,args,argTypes }=>(match args.toList,argTypes.toList with | [x'],[t]=>Au N x x'&&(match P.underlying t with | some .string=>true | _=>false) | _,_=>false)
   | _=>false)
 | .sidx d x i=>o.dst==some d&&decide (d<N)&&(match o.op with
   | .index t x' i'=>Au N x x'&&Au N i i'&&(match P.underlying t with | some .string=>true | _=>false)
   | _=>false)
 | .max d x y=>o.dst==some d&&decide (d<N)&&(match o.op with
   | .call { callee:= .builtin .max,args,.. }=>(match args.toList with | [x',y']=>Au N x x'&&Au N y y' | _=>false)
   | _=>false)
 | .ext d x i=>o.dst==some d&&decide (d<N)&&(match o.op with | .extract x' i'=>Au N x x'&&i'==i | _=>false)
 | .iad d m x i=>o.dst==some d&&decide (d<N)&&(match o.op with
   | .indexAddr t x' i'=>Au N x x'&&Au N i i'&&(match Jx P t with | some fi=>fi.size==m | none=>false)
   | _=>false)
 | .fadr d off x=>o.dst==some d&&decide (d<N)&&(match o.op with
   | .fieldAddr t x' i=>Au N x x'&&(match Apj P t i with | some (off',fi)=>off'==off&&fi.size != 0 | none=>false)
   | _=>false)
 | .ld d n ag x=>o.dst==some d&&decide (d<N)&&(match o.op with | .load t x'=>Au N x x'&&Abu P t n ag | _=>false)
 | .st n x v=>o.dst==none&&(match o.op with
   | .store t x' v'=>Au N x x'&&Au N v v'&&(match P.info? t with | some fi=>fi.size==n | none=>false)
   | _=>false)
 | .box d x=>o.dst==some d&&decide (d<N)&&(match o.op with | .box _ x'=>Au N x x' | _=>false)
 | .alc d z=>o.dst==some d&&decide (d<N)&&(match o.op with | .alloc t=>(match P.info? t with | some fi=>Qe fi z | none=>false) | _=>false)
 | .mk d m z x=>o.dst==some d&&decide (d<N)&&(match o.op with
   | .makeSlice t (.tmp x1) (.tmp x2)=>x1==x2&&Au N x (.tmp x1)&&(match Jx P t with
     | some fi=>fi.size==m&&Qe fi z&&Cj z.cells&&decide (z.cells.length=m)&&decide (fi.bytes≤1024)
     | none=>false)
   | .makeSlice t (.const (.int k1 n1)) (.const (.int k2 n2))=>k1==k2&&n1==n2&&Au N x (.const (.int k1 n1))&&(match Jx P t with
     | some fi=>fi.size==m&&Qe fi z&&Cj z.cells&&decide (z.cells.length=m)&&decide (fi.bytes≤1024)
     | none=>false)
   | _=>false)
 | .mkc d m _ x=>o.dst==some d&&decide (d<N)&&(match o.op with
   | .makeSlice t (.const (.int _ n)) x2=>n==0&&Au N x x2&&(match Jx P t with
     | some fi=>fi.size==m&&fi.zero.isSome&&decide (fi.bytes≤1024)
     | none=>false)
   | _=>false)
 | .bsl d m ps=>o.dst==some d&&decide (d<N)&&(match o.op with
   | .buildSlice t n parts=>parts.toList.map (·.1)==List.range n&&Ob N ps (parts.toList.map (·.2))&&(match Jx P t with
     | some fi=>fi.size==m&&fi.zero.isSome&&decide (0<m)&&decide (n*m≤16777216)
     | none=>false)
   | _=>false)
 | .mkr d m z x=>o.dst==some d&&decide (d<N)&&decide (d<100000)&&(match o.op with
   | .makeSlice t (.tmp x1) (.tmp x2)=>x1==x2&&Au N x (.tmp x1)&&(match Jx P t with
     | some fi=>fi.size==m&&Qe fi z&&Cj z.cells&&decide (z.cells.length=m)&&decide (fi.bytes≤1024)
     | none=>false)
   | .makeSlice t (.const (.int k1 n1)) (.const (.int k2 n2))=>k1==k2&&n1==n2&&Au N x (.const (.int k1 n1))&&(match Jx P t with
     | some fi=>fi.size==m&&Qe fi z&&Cj z.cells&&decide (z.cells.length=m)&&decide (fi.bytes≤1024)
     | none=>false)
   | _=>false)
 | .bslr d m ps=>o.dst==some d&&decide (d<N)&&decide (d<100000)&&(match o.op with
   | .buildSlice t n parts=>parts.toList.map (·.1)==List.range n&&Ob N ps (parts.toList.map (·.2))&&(match Jx P t with
     | some fi=>fi.size==m&&fi.zero.isSome&&decide (0<m)&&decide (n*m≤16777216)
     | none=>false)
   | _=>false)
 | .bld d z ps=>o.dst==some d&&decide (d<N)&&(match o.op with
   | .build t parts=>(match Akf P t,P.info? t with
     | some place,some fi=>Abv N place ps parts.toList&&(match fi.zero with | some zv=>Arw z zv.cells.toList | none=>false)
     | _,_=>false)
   | _=>false)
 | .app d m x y=>o.dst==some d&&decide (d<N)&&(match o.op with
   | .call { callee:= .builtin .append,args,argTypes }=>(match args.toList,argTypes.toList with
     | [x',y'],[t,t']=>t==t'&&Au N x x'&&Au N y y'&&(match Jx P t with
       | some fi=>fi.size==m&&(match fi.zero with | some z=>z.cells.size==m | none=>false)&&decide (fi.bytes≤1024)
       | none=>false)
     | _,_=>false)
   | _=>false)
 | .apf d m x y _=>o.dst==some d&&decide (d<N)&&(match o.op with
   | .call { callee:= .builtin .append,args,argTypes }=>(match args.toList,argTypes.toList with
     | [x',y'],[t,t']=>t==t'&&Au N x x'&&Au N y y'&&(match Jx P t with
       | some fi=>fi.size==m&&(match fi.zero with | some z=>z.cells.size==m | none=>false)&&decide (fi.bytes≤1024)
       | none=>false)
     | _,_=>false)
   | _=>false)
 | .apk d m x y _ _=>o.dst==some d&&decide (d<N)&&(match o.op with
   | .call { callee:= .builtin .append,args,argTypes }=>(match args.toList,argTypes.toList with
     | [x',y'],[t,t']=>t==t'&&Au N x x'&&Au N y y'&&(match Jx P t with
       | some fi=>fi.size==m&&(match fi.zero with | some z=>z.cells.size==m | none=>false)&&decide (fi.bytes≤1024)
       | none=>false)
     | _,_=>false)
   | _=>false)
 | .nck d x=>o.dst==some d&&decide (d<N)&&(match o.op with | .nilCheck x'=>Au N x x' | _=>false)
 | .mkf d f cs=>o.dst==some d&&decide (d<N)&&(match o.op with | .makeFunc (.func f') first cs'=>f'==f&&first.isEmpty&&Ob N cs cs'.toList | _=>false)
 | .mkm d _=>o.dst==some d&&decide (d<N)&&(match o.op with | .makeMap _ none=>true | _=>false)
 | .mlk d x k z ok kd=>o.dst==some d&&decide (d<N)&&(match o.op with
   | .lookup t x' k' ok'=>ok'==ok&&Au N x x'&&Au N k k'&&(match Arc P kd t with | some fi=>Qe fi z.v | none=>false)
   | _=>false)
 | .mup m k v kd=>o.dst==none&&(match o.op with
   | .mapUpdate t m' k' v'=>Au N m m'&&Au N k k'&&Au N v v'&&(Arc P kd t).isSome
   | .insert t m' k' v'=>Au N m m'&&Au N k k'&&Au N v v'&&(Arc P kd t).isSome
   | _=>false)
 | .bstr d x=>o.dst==some d&&decide (d<N)&&(match o.op with
   | .convert s t x'=>Au N x x'&&(match P.underlying s with | some (.slice e)=>(match P.underlying e with | some (.int .u8)=>true | _=>false) | _=>false)&&(match P.underlying t with | some .string=>true | _=>false)
   | _=>false)
 | _=>false
theorem C3 {P t fi} (h:Jx P t=some fi) : ∃e,P.underlying t=some (.slice e)∧P.info? e=some fi:=by
 unfold Jx at h
 split at h
 ·exact ⟨_,by assumption,h⟩
 cases h
theorem O7 {α:Type} {a:Array α} {x:α} (h:a.toList=[x]):a = #[x]:=by
 apply Array.toList_inj.1;simpa using h
theorem Hk {α:Type} {a:Array α} {x y:α} (h:a.toList=[x,y]):a = #[x,y]:=by
 apply Array.toList_inj.1;simpa using h
theorem On {P:Program} {o:Oper} {ao:AOp} {σ σ' a w O gv N vals fp} (hf:Be P N o ao=true) (h:Ok σ a w O gv N vals fp) (hs:Cm ao σ=some σ') :
  Bo P o σ' a w O gv N fp:=by
 cases ao with
 | mov d x=>
   simp only [Be,Bool.and_eq_true,beq_iff_eq,decide_eq_true_eq] at hf
   obtain ⟨⟨hd,hN⟩,hf⟩:=hf
   simp only [Cm,Option.some.injEq] at hs;subst hs
   split at hf
   ·exact Azw h (.inl (by assumption)) hd hN hf
   ·exact Azw h (.inr (by assumption)) hd hN hf
   ·cases hf
 | asg d x=>
   simp only [Be,Bool.and_eq_true,beq_iff_eq,decide_eq_true_eq] at hf
   obtain ⟨⟨hd,hN⟩,hf⟩:=hf
   split at hf
   ·exact Ayb h (.inl (by assumption)) hd hN hf hs
   ·exact Ayb h (.inr (by assumption)) hd hN hf hs
   ·cases hf
 | asgf d x=>
   simp only [Be,Bool.and_eq_true,beq_iff_eq,decide_eq_true_eq] at hf
   obtain ⟨⟨hd,hN⟩,hf⟩:=hf
   split at hf
   ·exact Av3 h (.inl (by assumption)) hd hN hf hs
   ·exact Av3 h (.inr (by assumption)) hd hN hf hs
   ·cases hf
 | pick d c x y=>
   simp only [Be,Bool.and_eq_true,beq_iff_eq,decide_eq_true_eq] at hf
   obtain ⟨⟨hd,hN⟩,hf⟩:=hf
   split at hf
   case h_2=>cases hf
   simp only [Bool.and_eq_true] at hf
   exact A1f h (by assumption) hd hN hf.1.1 hf.1.2 hf.2 hs
 | bin d op x y=>
   simp only [Be,Bool.and_eq_true,beq_iff_eq,decide_eq_true_eq] at hf
   obtain ⟨⟨hd,hN⟩,hf⟩:=hf
   split at hf
   case h_2=>cases hf
   rename_i op' t x' y' yt ho
   simp only [Bool.and_eq_true,beq_iff_eq] at hf
   obtain ⟨⟨rfl,hx⟩,hy⟩:=hf
   simp only [Cm,A3h] at hs
   split at hs
   case h_2=>cases hs
   rename_i u hu
   split at hs
   ·cases hs
   ·rename_i hb
    exact Ayr h ho hd hN hx hy (by intro u' b h1 h2;rw [hu] at h1;cases h1;subst h2;exact absurd rfl hb) hs
 | binb d op x y=>
   simp only [Be,Bool.and_eq_true,beq_iff_eq,decide_eq_true_eq] at hf
   obtain ⟨⟨hd,hN⟩,hf⟩:=hf
   split at hf
   case h_2=>cases hf
   rename_i op' t x' y' yt ho
   simp only [Bool.and_eq_true,beq_iff_eq] at hf
   obtain ⟨⟨⟨rfl,hx⟩,hy⟩,ht⟩:=hf
   split at ht
   case h_2=>cases ht
   exact Ayr h ho hd hN hx hy (by intros;assumption) hs
 | un d op x=>
   simp only [Be,Bool.and_eq_true,beq_iff_eq,decide_eq_true_eq] at hf
   obtain ⟨⟨hd,hN⟩,hf⟩:=hf
   split at hf
   case h_2=>cases hf
   simp only [Bool.and_eq_true,beq_iff_eq] at hf
   obtain ⟨rfl,hx⟩:=hf
   exact A42 h (by assumption) hd hN hx hs
 | cnv d k x=>
   simp only [Be,Bool.and_eq_true,beq_iff_eq,decide_eq_true_eq] at hf
   obtain ⟨⟨hd,hN⟩,hf⟩:=hf
   split at hf
   case h_2=>cases hf
   rename_i s t x' ho
   simp only [Bool.and_eq_true] at hf
   obtain ⟨⟨hx,h1⟩,h2⟩:=hf
   split at h1
   case h_2=>cases h1
   rename_i k1 e1
   split at h2
   case h_2=>cases h2
   rename_i k2 e2
   simp only [beq_iff_eq] at h2
   subst h2
   exact A27 h ho hd hN e1 e2 hx hs
 | len d x=>
   simp only [Be,Bool.and_eq_true,beq_iff_eq,decide_eq_true_eq] at hf
   obtain ⟨⟨hd,hN⟩,hf⟩:=hf
   split at hf
   case h_2=>cases hf
   rename_i args ats ho
   split at hf
   case h_2=>cases hf
   rename_i x' t h1 h2
   simp only [Bool.and_eq_true] at hf
   obtain ⟨hx,ht⟩:=hf
   split at ht
   case h_2=>cases ht
   rw [O7 h1,O7 h2] at ho
   exact A20 h ho hd hN hx (by assumption) hs
 | slen d x=>
   simp only [Be,Bool.and_eq_true,beq_iff_eq,decide_eq_true_eq] at hf
   obtain ⟨⟨hd,hN⟩,hf⟩:=hf
   split at hf
   case h_2=>cases hf
   rename_i args ats ho
   split at hf
   case h_2=>cases hf
   rename_i x' t h1 h2
   simp only [Bool.and_eq_true] at hf
   obtain ⟨hx,ht⟩:=hf
   split at ht
   case h_2=>cases ht
   rw [O7 h1,O7 h2] at ho
   exact A1c h ho hd hN hx (by assumption) hs
 | sidx d x i=>
   simp only [Be,Bool.and_eq_true,beq_iff_eq,decide_eq_true_eq] at hf
   obtain ⟨⟨hd,hN⟩,hf⟩:=hf
   split at hf
   case h_2=>cases hf
   simp only [Bool.and_eq_true] at hf
   obtain ⟨⟨hx,hi⟩,ht⟩:=hf
   split at ht
   case h_2=>cases ht
   exact A0s h (by assumption) hd hN hx hi (by assumption) hs
 | max d x y=>
   simp only [Be,Bool.and_eq_true,beq_iff_eq,decide_eq_true_eq] at hf
   obtain ⟨⟨hd,hN⟩,hf⟩:=hf
   split at hf
   case h_2=>cases hf
   rename_i args ats ho
   split at hf
   case h_2=>cases hf
   rename_i x' y' h1
   simp only [Bool.and_eq_true] at hf
   rw [Hk h1] at ho
   exact A3c h ho hd hN hf.1 hf.2 hs
 | ext d x i=>
   simp only [Be,Bool.and_eq_true,beq_iff_eq,decide_eq_true_eq] at hf
   obtain ⟨⟨hd,hN⟩,hf⟩:=hf
   split at hf
   case h_2=>cases hf
   simp only [Bool.and_eq_true,beq_iff_eq] at hf
   obtain ⟨hx,rfl⟩:=hf
   exact A3z h (by assumption) hd hN hx hs
 | iad d m x i=>
   simp only [Be,Bool.and_eq_true,beq_iff_eq,decide_eq_true_eq] at hf
   obtain ⟨⟨hd,hN⟩,hf⟩:=hf
   split at hf
   case h_2=>cases hf
   simp only [Bool.and_eq_true] at hf
   obtain ⟨⟨hx,hi⟩,ht⟩:=hf
   split at ht
   case h_2=>cases ht
   rename_i fi hts
   obtain ⟨e,h1,h2⟩:=C3 hts
   exact A4q h (by assumption) hd hN hx hi h1 h2 (by simpa using ht) hs
 | fadr d off x=>
   simp only [Be,Bool.and_eq_true,beq_iff_eq,decide_eq_true_eq] at hf
   obtain ⟨⟨hd,hN⟩,hf⟩:=hf
   split at hf
   case h_2=>cases hf
   simp only [Bool.and_eq_true] at hf
   obtain ⟨hx,ht⟩:=hf
   split at ht
   case h_2=>cases ht
   rename_i off' fi hts
   simp only [Bool.and_eq_true,beq_iff_eq,bne_iff_ne] at ht
   obtain ⟨rfl,hz⟩:=ht
   unfold Apj at hts
   split at hts
   case h_2=>cases hts
   rename_i fs hu
   split at hts
   case h_2=>cases hts
   rename_i f hfi
   obtain ⟨fi',h1,h2⟩:=Option.map_eq_some_iff.1 hts
   cases h2
   exact A2l h (by assumption) hd hN hx hu hfi rfl h1 hz hs
 | ld d n ag x=>
   simp only [Be,Bool.and_eq_true,beq_iff_eq,decide_eq_true_eq] at hf
   obtain ⟨⟨hd,hN⟩,hf⟩:=hf
   split at hf
   case h_2=>cases hf
   simp only [Bool.and_eq_true] at hf
   exact A41 h (by assumption) hd hN hf.1 hf.2 hs
 | st n x v=>
   simp only [Be,Bool.and_eq_true,beq_iff_eq] at hf
   obtain ⟨hd,hf⟩:=hf
   split at hf
   case h_2=>cases hf
   simp only [Bool.and_eq_true] at hf
   obtain ⟨⟨hx,hv⟩,ht⟩:=hf
   split at ht
   case h_2=>cases ht
   exact A0e h (by assumption) hd hx hv (by assumption) (by simpa using ht) hs
 | box d x=>
   simp only [Be,Bool.and_eq_true,beq_iff_eq,decide_eq_true_eq] at hf
   obtain ⟨⟨hd,hN⟩,hf⟩:=hf
   split at hf
   case h_2=>cases hf
   exact A21 h (by assumption) hd hN hf hs
 | alc d z=>
   simp only [Be,Bool.and_eq_true,beq_iff_eq,decide_eq_true_eq] at hf
   obtain ⟨⟨hd,hN⟩,hf⟩:=hf
   split at hf
   case h_2=>cases hf
   split at hf
   case h_2=>cases hf
   unfold Qe at hf
   split at hf
   case h_2=>cases hf
   exact A28 h (by assumption) hd hN (by assumption) (by assumption) hf hs
 | mk d m z x=>
   simp only [Be,Bool.and_eq_true,beq_iff_eq,decide_eq_true_eq] at hf
   obtain ⟨⟨hd,hN⟩,hf⟩:=hf
   split at hf
   case h_3=>cases hf
   ·rename_i t x1 x2 ho
    simp only [Bool.and_eq_true,beq_iff_eq] at hf
    obtain ⟨⟨rfl,hx⟩,ht⟩:=hf
    split at ht
    case h_2=>cases ht
    rename_i fi hts
    simp only [Bool.and_eq_true,beq_iff_eq,decide_eq_true_eq] at ht
    obtain ⟨⟨⟨⟨h1,h2⟩,h3⟩,h4⟩,h5⟩:=ht
    obtain ⟨e,g1,g2⟩:=C3 hts
    unfold Qe at h2
    split at h2
    case h_2=>cases h2
    exact Av4 h ho hd hN hx g1 g2 h1 (by assumption) h2 h3 h4 h5 hs
   ·rename_i t k1 n1 k2 n2 ho
    simp only [Bool.and_eq_true,beq_iff_eq] at hf
    obtain ⟨⟨⟨rfl,rfl⟩,hx⟩,ht⟩:=hf
    split at ht
    case h_2=>cases ht
    rename_i fi hts
    simp only [Bool.and_eq_true,beq_iff_eq,decide_eq_true_eq] at ht
    obtain ⟨⟨⟨⟨h1,h2⟩,h3⟩,h4⟩,h5⟩:=ht
    obtain ⟨e,g1,g2⟩:=C3 hts
    unfold Qe at h2
    split at h2
    case h_2=>cases h2
    exact Av4 h ho hd hN hx g1 g2 h1 (by assumption) h2 h3 h4 h5 hs
 | mkc d m z x=>
   simp only [Be,Bool.and_eq_true,beq_iff_eq,decide_eq_true_eq] at hf
   obtain ⟨⟨hd,hN⟩,hf⟩:=hf
   split at hf
   case h_2=>cases hf
   rename_i t k0 n0 x2 ho
   simp only [Bool.and_eq_true,beq_iff_eq] at hf
   obtain ⟨⟨rfl,hx⟩,ht⟩:=hf
   split at ht
   case h_2=>cases ht
   rename_i fi hts
   simp only [Bool.and_eq_true,beq_iff_eq,decide_eq_true_eq] at ht
   obtain ⟨⟨h1,h2⟩,h5⟩:=ht
   obtain ⟨e,g1,g2⟩:=C3 hts
   obtain ⟨zv,hz⟩:=Option.isSome_iff_exists.1 h2
   exact A4l h ho hd hN hx g1 g2 h1 hz h5 hs
 | bsl d m ps=>
   simp only [Be,Bool.and_eq_true,beq_iff_eq,decide_eq_true_eq] at hf
   obtain ⟨⟨hd,hN⟩,hf⟩:=hf
   split at hf
   case h_2=>cases hf
   rename_i t n parts ho
   simp only [Bool.and_eq_true,beq_iff_eq] at hf
   obtain ⟨⟨h1,h2⟩,ht⟩:=hf
   split at ht
   case h_2=>cases ht
   rename_i fi hts
   simp only [Bool.and_eq_true,beq_iff_eq,decide_eq_true_eq] at ht
   obtain ⟨⟨⟨g1,g2⟩,g3⟩,g4⟩:=ht
   obtain ⟨e,k1,k2⟩:=C3 hts
   obtain ⟨z,hz⟩:=Option.isSome_iff_exists.1 g2
   exact Azi h ho hd hN h1 h2 k1 k2 g1 hz g3 g4 hs
 | mkr d m z x=>
   simp only [Be,Bool.and_eq_true,beq_iff_eq,decide_eq_true_eq] at hf
   obtain ⟨⟨⟨hd,hN⟩,hsm⟩,hf⟩:=hf
   obtain ⟨U,σ1,hs1,rfl⟩:=Axq hs
   split at hf
   case h_3=>cases hf
   ·rename_i t x1 x2 ho
    simp only [Bool.and_eq_true,beq_iff_eq] at hf
    obtain ⟨⟨rfl,hx⟩,ht⟩:=hf
    split at ht
    case h_2=>cases ht
    rename_i fi hts
    simp only [Bool.and_eq_true,beq_iff_eq,decide_eq_true_eq] at ht
    obtain ⟨⟨⟨⟨h1,h2⟩,h3⟩,h4⟩,h5⟩:=ht
    obtain ⟨e,g1,g2⟩:=C3 hts
    unfold Qe at h2
    split at h2
    case h_2=>cases h2
    exact (Av4 h ho hd hN hx g1 g2 h1 (by assumption) h2 h3 h4 h5 hs1).frzd hsm
   ·rename_i t k1 n1 k2 n2 ho
    simp only [Bool.and_eq_true,beq_iff_eq] at hf
    obtain ⟨⟨⟨rfl,rfl⟩,hx⟩,ht⟩:=hf
    split at ht
    case h_2=>cases ht
    rename_i fi hts
    simp only [Bool.and_eq_true,beq_iff_eq,decide_eq_true_eq] at ht
    obtain ⟨⟨⟨⟨h1,h2⟩,h3⟩,h4⟩,h5⟩:=ht
    obtain ⟨e,g1,g2⟩:=C3 hts
    unfold Qe at h2
    split at h2
    case h_2=>cases h2
    exact (Av4 h ho hd hN hx g1 g2 h1 (by assumption) h2 h3 h4 h5 hs1).frzd hsm
 | bslr d m ps=>
   simp only [Be,Bool.and_eq_true,beq_iff_eq,decide_eq_true_eq] at hf
   obtain ⟨⟨⟨hd,hN⟩,hsm⟩,hf⟩:=hf
   obtain ⟨U,σ1,hs1,rfl⟩:=Aue hs
   split at hf
   case h_2=>cases hf
   rename_i t n parts ho
   simp only [Bool.and_eq_true,beq_iff_eq] at hf
   obtain ⟨⟨h1,h2⟩,ht⟩:=hf
   split at ht
   case h_2=>cases ht
   rename_i fi hts
   simp only [Bool.and_eq_true,beq_iff_eq,decide_eq_true_eq] at ht
   obtain ⟨⟨⟨g1,g2⟩,g3⟩,g4⟩:=ht
   obtain ⟨e,k1,k2⟩:=C3 hts
   obtain ⟨z,hz⟩:=Option.isSome_iff_exists.1 g2
   exact (Azi h ho hd hN h1 h2 k1 k2 g1 hz g3 g4 hs1).frzd hsm
 | bld d z ps=>
   simp only [Be,Bool.and_eq_true,beq_iff_eq,decide_eq_true_eq] at hf
   obtain ⟨⟨hd,hN⟩,hf⟩:=hf
   split at hf
   case h_2=>cases hf
   rename_i t parts ho
   split at hf
   case h_2=>cases hf
   rename_i place fi hp hfi
   simp only [Bool.and_eq_true] at hf
   obtain ⟨h1,h2⟩:=hf
   split at h2
   case h_2=>cases h2
   exact A26 h ho hd hN hp h1 hfi (by assumption) h2 hs
 | app d m x y=>
   simp only [Be,Bool.and_eq_true,beq_iff_eq,decide_eq_true_eq] at hf
   obtain ⟨⟨hd,hN⟩,hf⟩:=hf
   split at hf
   case h_2=>cases hf
   rename_i args ats ho
   split at hf
   case h_2=>cases hf
   rename_i x' y' t t' h1 h2
   simp only [Bool.and_eq_true,beq_iff_eq] at hf
   obtain ⟨⟨⟨rfl,hx⟩,hy⟩,ht⟩:=hf
   split at ht
   case h_2=>cases ht
   rename_i fi hts
   simp only [Bool.and_eq_true,beq_iff_eq,decide_eq_true_eq] at ht
   obtain ⟨⟨g1,g2⟩,g3⟩:=ht
   split at g2
   case h_2=>cases g2
   obtain ⟨e,k1,k2⟩:=C3 hts
   rw [Hk h1,Hk h2] at ho
   exact A38 h ho hd hN hx hy k1 k2 g1 (by assumption) (by simpa using g2) g3 hs
 | apk d m x y s e=>simp [Cm] at hs
 | apf d m x y ef=>
   simp only [Be,Bool.and_eq_true,beq_iff_eq,decide_eq_true_eq] at hf
   obtain ⟨⟨hd,hN⟩,hf⟩:=hf
   split at hf
   case h_2=>cases hf
   rename_i args ats ho
   split at hf
   case h_2=>cases hf
   rename_i x' y' t t' h1 h2
   simp only [Bool.and_eq_true,beq_iff_eq] at hf
   obtain ⟨⟨⟨rfl,hx⟩,hy⟩,ht⟩:=hf
   split at ht
   case h_2=>cases ht
   rename_i fi hts
   simp only [Bool.and_eq_true,beq_iff_eq,decide_eq_true_eq] at ht
   obtain ⟨⟨g1,g2⟩,g3⟩:=ht
   split at g2
   case h_2=>cases g2
   obtain ⟨e,k1,k2⟩:=C3 hts
   rw [Hk h1,Hk h2] at ho
   exact A4n h ho hd hN hx hy k1 k2 g1 (by assumption) (by simpa using g2) g3 hs
 | nck d x=>
   simp only [Be,Bool.and_eq_true,beq_iff_eq,decide_eq_true_eq] at hf
   obtain ⟨⟨hd,hN⟩,hf⟩:=hf
   split at hf
   case h_2=>cases hf
   exact A3f h (by assumption) hd hN hf hs
 | mkf d f cs=>
   simp only [Be,Bool.and_eq_true,beq_iff_eq,decide_eq_true_eq] at hf
   obtain ⟨⟨hd,hN⟩,hf⟩:=hf
   split at hf
   case h_2=>cases hf
   rename_i f' first cs' ho
   simp only [Bool.and_eq_true,beq_iff_eq] at hf
   obtain ⟨⟨rfl,he⟩,hx⟩:=hf
   have:first = #[]:=by simpa using he
   subst this
   simp only [Cm,Option.some.injEq] at hs;subst hs
   exact A3n h ho hd hN hx
 | slc d m x lo hi=>
   simp only [Be,Bool.and_eq_true,beq_iff_eq,decide_eq_true_eq] at hf
   obtain ⟨⟨hd,hN⟩,hf⟩:=hf
   split at hf
   case h_2=>cases hf
   rename_i ho
   simp only [Bool.and_eq_true,Bool.or_eq_true,decide_eq_true_eq] at hf
   obtain ⟨hx,hf⟩:=hf
   rcases hf with ⟨⟨⟨hlo,hhi⟩,hm6⟩,hty⟩ | hf
   ·split at hty
    case h_2=>cases hty
    rename_i fi hts
    obtain ⟨e,k1,k2⟩:=C3 hts
    exact A3w h (by assumption) hd hN hx hlo hhi k1 k2 (by simpa using hty) hm6 hs
   ·unfold Au1 at hf
    split at hf
    case h_2=>cases hf
    split at hf
    case h_2=>cases hf
    rename_i n e hu
    simp only [Bool.and_eq_true] at hf
    obtain ⟨hmn,hsz⟩:=hf
    split at hsz
    case h_2=>cases hsz
    rename_i fi hi2
    exact A4p h ho hd hN hx hu hi2 (by simpa using hsz) (Nat.eq_of_beq_eq_true hmn) hs
 | call d f as=>simp [Be] at hf
 | cally d x as ms=>simp [Be] at hf
 | mkm d kd=>
   simp only [Be,Bool.and_eq_true,beq_iff_eq,decide_eq_true_eq] at hf
   obtain ⟨⟨hd,hN⟩,hf⟩:=hf
   split at hf
   case h_2=>cases hf
   simp only [Cm,A4u,Option.some.injEq] at hs;subst hs
   exact A3m h (by assumption) hd hN
 | mlk d x k z ok kd=>
   simp only [Be,Bool.and_eq_true,beq_iff_eq,decide_eq_true_eq] at hf
   obtain ⟨⟨hd,hN⟩,hf⟩:=hf
   split at hf
   case h_2=>cases hf
   rename_i t x' k' ok' ho
   simp only [Bool.and_eq_true,beq_iff_eq] at hf
   obtain ⟨⟨⟨rfl,hx⟩,hk⟩,hz⟩:=hf
   split at hz
   case h_2=>cases hz
   rename_i fi hfi
   obtain ⟨kt,et,k1,k2,k3⟩:=Aa2 hfi
   unfold Qe at hz
   split at hz
   case h_2=>cases hz
   rename_i zv hzv
   exact A35 h ho hd hN k1 k2 k3 hzv hz hx hk hs
 | mup m k v kd=>
   simp only [Be,Bool.and_eq_true,beq_iff_eq] at hf
   obtain ⟨hd,hf⟩:=hf
   split at hf
   case h_3=>cases hf
   ·rename_i t m' k' v' ho
    simp only [Bool.and_eq_true] at hf
    obtain ⟨⟨⟨hm,hk⟩,hv⟩,ht⟩:=hf
    obtain ⟨fi,hfi⟩:=Option.isSome_iff_exists.1 ht
    obtain ⟨kt,et,k1,k2,k3⟩:=Aa2 hfi
    exact Aza h (.inl ho) hd k1 k2 hm hk hv hs
   ·rename_i t m' k' v' ho
    simp only [Bool.and_eq_true] at hf
    obtain ⟨⟨⟨hm,hk⟩,hv⟩,ht⟩:=hf
    obtain ⟨fi,hfi⟩:=Option.isSome_iff_exists.1 ht
    obtain ⟨kt,et,k1,k2,k3⟩:=Aa2 hfi
    exact Aza h (.inr ho) hd k1 k2 hm hk hv hs
 | bstr d x=>
   simp only [Be,Bool.and_eq_true,beq_iff_eq,decide_eq_true_eq] at hf
   obtain ⟨⟨hd,hN⟩,hf⟩:=hf
   split at hf
   case h_2=>cases hf
   rename_i s t x' ho
   simp only [Bool.and_eq_true] at hf
   obtain ⟨⟨hx,h1⟩,h2⟩:=hf
   split at h1
   case h_2=>cases h1
   rename_i e h3
   split at h1
   case h_2=>cases h1
   rename_i h4
   split at h2
   case h_2=>cases h2
   rename_i h5
   exact A1v h ho hd hN h3 h4 h5 hx hs
end Go.Proofs.Ytmmcfdfdacpjgaa.Ax
namespace Go.Proofs.Ytmmcfdfdacpjgaa.Ax
open Go
mutual
def V.noFz:V→Bool
 | .sl o _ xs=>(o&&Ce xs) || xs.isEmpty
 | .ptr o x=>o&&x.noFz
 | .agg cs=>Ce cs
 | .tup cs=>Ce cs
 | .clo _ cs=>Ce cs
 | .fclo _ _=>false
 | .int _ _=>true
 | .bool _=>true
 | .str _=>true
 | .nilp=>true
 | .nilsl _=>true
 | .nl _=>true
 | .es _=>true
 | .clov _ _ cs=>Ce cs
 | .raw _=>true
 | .dead=>true
 | .mp o _=>o
def Ce:List V→Bool
 | []=>true
 | v::r=>v.noFz&&Ce r
end
theorem Aoa (xs ys:List V):Ce (xs++ys)=(Ce xs&&Ce ys):=by
 induction xs with
 | nil=>simp [Ce]
 | cons x r ih=>simp [Ce,ih,Bool.and_assoc]
theorem Aj1 {x:V} (h:x.noFz=true):Ce x.cells=true:=by
 cases x<;>simp [V.cells,Ce]<;>first | exact h | (simpa [V.noFz] using h)
theorem Aut {xs:List V} (h:Ce xs=true):Ce (Ay xs)=true:=by
 induction xs with
 | nil=>rfl
 | cons x r ih=>
   simp [Ce] at h
   simp only [Ay,Aoa,Aj1 h.1,ih h.2,Bool.and_self]
theorem RdL.retag {w:World} {O O':Nat→Prop} {xs vs fp} (h:RdL w O xs vs fp) (hn:Ce xs=true) (hO : ∀b∈fp,O' b):RdL w O' xs vs fp:=by
 induction h with
 | nil=>exact .nil
 | leaf h _ ih=>simp [Ce] at hn;exact .leaf h (ih hn.2 hO)
 | grp h _ _ ih1 ih2=>
   simp [Ce] at hn
   refine .grp h (ih1 ?_ fun b hb=>hO b (by simp [hb])) (ih2 hn.2 fun b hb=>hO b (by simp [hb]))
   cases h<;>simpa [V.noFz] using hn.1
 | @fblk x v b off k ch vch xs vs fp h hc hO' s t ih1 ih2=>
   simp [Ce] at hn
   cases h with
   | sl _ m ys _ _ cap hm hcap=>
     have:ys=[]:=by simpa [V.noFz] using hn.1
     subst this
     have hv:vch=[]:=by have:=s.length;simpa [Ay] using this
     subst hv
     exact .fblk (.sl false m [] b off cap hm hcap) hc ⟨.inl rfl,rfl⟩ (by simpa [Ay] using .nil) (ih2 hn.2 hO)
   | ptr=>simp [V.noFz] at hn
 | @oblk x v b k ch arr e fp1 xs vs fp2 h hb hO' hk s t ih1 ih2=>
   simp [Ce] at hn
   refine .oblk h hb (hO b (by simp)) hk (ih1 ?_ fun c hc=>hO c (by simp [hc])) (ih2 hn.2 fun c hc=>hO c (by simp [hc]))
   cases h with
   | sl _ m ys _ _ cap hm hcap=>
     have:=hn.1
     simp [V.noFz] at this
     rcases this with h | h
     ·exact Aut h
     ·subst h;rfl
   | ptr _ y _ _=>exact Aj1 (by simpa [V.noFz] using hn.1)
 | mpf _ _ _ _=>simp [Ce,V.noFz] at hn
 | @mpo es b ents ck xs vs fp hb he hO' t ih=>simp [Ce] at hn;exact .mpo hb he (hO b (by simp)) (ih hn.2 fun c hc=>hO c (by simp [hc]))
mutual
def M3 (σ:St):A→Option V
 | .val v=>some v.fz
 | .ref r p=>(B0 σ r p).map V.fz
 | .agg as=>(Aea σ as).map .agg
 | .clo f as=>(Aea σ as).map (.fclo f)
 | .top=>none
 | .rfv _ _ _=>none
 | .addr _ _ _=>none
 | .fad _=>none
def Aea (σ:St):List A→Option (List V)
 | []=>some []
 | a::r=>match M3 σ a,Aea σ r with
   | some v,some vs=>some (v::vs)
   | _,_=>none
end
mutual
def A.roots:A→List Nat
 | .ref r _=>[r]
 | .rfv _ r _=>[r]
 | .addr r _ _=>[r]
 | .agg as=>E2 as
 | .clo _ as=>E2 as
 | .top=>[]
 | .val _=>[]
 | .fad _=>[]
def E2:List A→List Nat
 | []=>[]
 | a::r=>a.roots++E2 r
end
theorem Aoq {σ a w O gv N vals fp} (h:Ok σ a w O gv N vals fp) {O2:Nat→Prop} (h1 : ∀b,¬O b→b<w.heap.size→¬O2 b) : ∀ {as vs Us},RelL w O (look σ) vals as vs→Aea σ as=some Us →
  (∀r∈E2 as,∀b∈fp r,¬O2 b)→RdL w O2 Us vs []:=by
 have step : ∀ {a r Us},Aea σ (a::r)=some Us → ∃u us,M3 σ a=some u∧Aea σ r=some us∧Us=u::us:=by
  intro a r Us hh
  simp only [Aea] at hh
  split at hh
  ·cases hh;exact ⟨_,_,by assumption,by assumption,rfl⟩
  ·cases hh
 intro as vs Us hr
 induction hr generalizing Us with
 | nil=>intro hs _;simp [Aea] at hs;subst hs;exact .nil
 | top _ ih=>intro hs _;obtain ⟨u,us,h2,_,_⟩:=step hs;simp [M3] at h2
 | rfv _ _ _ _ ih=>intro hs _;obtain ⟨u,us,h2,_,_⟩:=step hs;simp [M3] at h2
 | @val x v as vs hn hr t ih=>
   intro hs hR
   obtain ⟨u,us,h2,h3,rfl⟩:=step hs
   simp [M3] at h2;subst h2
   have:=hr.fz (O2:=O2) (by simp) h1
   simpa [fzL] using this.append (ih h3 fun r hr=>hR r (by simp [E2,hr]))
 | @ref r p T u v as vs hL hsu hv t ih=>
   intro hs hR
   obtain ⟨u',us,h2,h3,rfl⟩:=step hs
   simp [M3,B0,hL,hsu] at h2;subst h2
   obtain ⟨z,f1,fu,f2,e,hz,hru,_⟩:=ctx p (h.sim.own r T hL) hsu
   rw [hv] at hz;cases hz
   have:=hru.fz (O2:=O2) (fun b hb=>hR r (by simp [E2,A.roots]) b (by rw [e];simp [hb])) h1
   simpa [fzL] using this.append (ih h3 fun r hr=>hR r (by simp [E2,hr]))
 | addr=>intro hs _;obtain ⟨u,us,h2,_,_⟩:=step hs;simp [M3] at h2
 | fad=>intro hs _;obtain ⟨u,us,h2,_,_⟩:=step hs;simp [M3] at h2
 | @agg bs us' as vs s t ih1 ih2=>
   intro hs hR
   obtain ⟨u,us,h2,h3,rfl⟩:=step hs
   simp only [M3] at h2
   obtain ⟨ws,h4,rfl⟩:=Option.map_eq_some_iff.1 h2
   exact .grp (fp1:=[]) (fp2:=[]) (.agg _ _) (ih1 h4 fun r hr=>hR r (by simp [E2,A.roots,hr])) (ih2 h3 fun r hr=>hR r (by simp [E2,hr]))
 | @clo f bs us' as vs s t ih1 ih2=>
   intro hs hR
   obtain ⟨u,us,h2,h3,rfl⟩:=step hs
   simp only [M3] at h2
   obtain ⟨ws,h4,rfl⟩:=Option.map_eq_some_iff.1 h2
   exact .grp (fp1:=[]) (fp2:=[]) (.fclo _ _ _ _ rfl) ((ih1 h4 fun r hr=>hR r (by simp [E2,A.roots,hr])).fz (by simp) (fun _ hb _=>hb)) (ih2 h3 fun r hr=>hR r (by simp [E2,hr]))
def Sc (σ:St):A→Option (Nat×List Nat×V)
 | .ref r p=>match B0 σ r p with
   | some u=>if u.node then some (r,p,u) else none
   | none=>none
 | _=>none
def Ee (σ:St):List (A×Bool)→Nat→Option (List V×List (Nat×Nat×List Nat)×List Nat)
 | [],_=>some ([],[],[])
 | (a,io)::rest,k=>match Ee σ rest (k+1) with
   | none=>none
   | some (vs,ls,rs)=>match (if io then Sc σ a else none) with
     | some (r,p,u)=>some (u::vs,(k,r,p)::ls,rs)
     | none=>match M3 σ a with
       | some v=>some (v::vs,ls,a.roots++rs)
       | none=>none
def Tri (P:Program) (f:Nat) (args:List V) (R:V→List V→Prop):Prop:=
 ∀(w:World) (O:Nat→Prop) (vals:List Value) (fp:List Nat),RdL w O args vals fp→fp.Nodup →
   (∃fn c,P.funcs[f]? = some fn∧(fn.name == "runtime.NumGoroutine")=false∧fn.body=some c) ∧
   Calls P f vals.toArray w fun e w' => ∃res outs rv O' fpr fpo,R res outs∧e = .returned rv∧RdL w' O' [res] [rv] fpr∧RdL w' O' outs vals fpo∧(fpr++fpo).Nodup ∧
    Mv w O (· ∈ fp) w' O' (· ∈ fpr++fpo)
theorem Tri.mono {P f args} {R R':V→List V→Prop} (h:Tri P f args R) (hr : ∀r o,R r o→R' r o):Tri P f args R':=by
 intro w O vals fp h1 h2
 obtain ⟨h3,h4⟩:=h w O vals fp h1 h2
 refine ⟨h3,h4.mono ?_⟩
 rintro e w' ⟨res,outs,rv,O',fpr,fpo,hR,rest⟩
 exact ⟨res,outs,rv,O',fpr,fpo,hr _ _ hR,rest⟩
def Ea (rs:List Nat) (v:V):Bool:=rs.isEmpty || v.noFz
def Mb (v:V):Nat:=match v.node with
 | true=>1
 | false=>0
theorem Og {v:V} (h:v.node=true):Mb v=1:=by simp [Mb,h]
def A4w (p1 p2:List Nat) (T o1 o2:V):Option V:=match upd p1 T .dead with
 | some T1=>match upd p2 T1 o2 with
   | some T2=>upd p1 T2 o1
   | none=>none
 | none=>none
def Ank (r1:Nat) (p1:List Nat) (r2:Nat) (p2:List Nat) (o1 o2:V) (σ:St):Option St:=match Nat.beq r1 r2 with
 | true=>match look σ r1 with
   | .val T=>match A4w p1 p2 T o1 o2 with
     | some T'=>some (Hq r1 T' (min (p1.length+Mb o1) (p2.length+Mb o2)) σ)
     | none=>none
   | _=>none
 | false=>match look σ r1,look σ r2 with
   | .val T1,.val T2=>match upd p1 T1 o1,upd p2 T2 o2 with
     | some T1',some T2'=>some (Hq r2 T2' (p2.length+Mb o2) (Hq r1 T1' (p1.length+Mb o1) σ))
     | _,_=>none
   | _,_=>none
def Ff (d:Nat) (ls:List (Nat×Nat×List Nat)) (rs:List Nat) (K:St→Prop) (σ:St) (res:V) (outs:List V):Prop:=
 match ls with
 | []=>Ea rs res=true∧K (Ak d (.val res) σ)
 | [(k,r,p)]=>Ea rs res=true∧(match outs[k]?,look σ r with
   | some out,.val T=>Ea rs out=true∧(match upd p T out with
     | some T'=>K (Ak d (.val res) (Hq r T' (p.length+Mb out) σ))
     | none=>False)
   | _,_=>False)
 | [(k1,r1,p1),(k2,r2,p2)]=>Ea rs res=true∧(match outs[k1]?,outs[k2]? with
   | some o1,some o2=>(Ea rs o1&&Ea rs o2)=true∧(match Ank r1 p1 r2 p2 o1 o2 σ with
     | some σ'=>K (Ak d (.val res) σ')
     | none=>False)
   | _,_=>False)
 | _=>False
def Atl (r1:Nat) (p1:List Nat) (r2:Nat) (p2:List Nat) (T:A):Bool:=match Nat.beq r1 r2 with
 | false=>true
 | true => !Qa p1 p2 && !Qa p2 p1&&(match T with
   | .val T=>(match upd p1 T .dead with
     | some T1=>(upd p2 T1 .dead).isSome
     | none=>false)
   | _=>false)
def Jy (σ:St) (ls:List (Nat×Nat×List Nat)) (rs:List Nat):Bool:=match ls with
 | []=>true
 | [(_,r,_)] => !rs.contains r
 | [(_,r1,p1),(_,r2,p2)] => !rs.contains r1 && !rs.contains r2&&Atl r1 p1 r2 p2 (look σ r1)
 | _=>false
def A29:Option Nat→List V→V
 | none,cs=> .agg cs
 | some f,cs=> .clo f cs
def A45:Option Nat→List A→A
 | none,cs=> .agg cs
 | some f,cs=> .clo f cs
def Afy:Option Nat→List Value→Value
 | none,vs=> .agg vs.toArray
 | some f,vs=> .func (.func f) #[] vs.toArray
def unG:Option Nat→V→Option (List V)
 | none,.agg cs=>some cs
 | some f,.clo f' cs=>if f'=f then some cs else none
 | _,_=>none
theorem Ay9 {g:Option Nat} {v:V} {cs:List V} (h:unG g v=some cs):v=A29 g cs:=by
 unfold unG at h
 split at h
 ·cases h;rfl
 ·split at h
  ·rename_i e;cases h;subst e;rfl
  cases h
 cases h
def Lg:List (A×Bool)→Option (List (A×Bool)×Option Nat×List A×List (A×Bool))
 | []=>none
 | (.agg bs,true)::rest=>some ([],none,bs,rest)
 | (.clo f bs,true)::rest=>some ([],some f,bs,rest)
 | e::rest=>match Lg rest with
   | some (pre,g,bs,r)=>some (e::pre,g,bs,r)
   | none=>none
def Zk (n:Nat) (g:Option Nat) (R:V→List V→Prop) (res:V) (outs:List V):Prop:=match outs.drop n with
 | v::o=>(match unG g v with
   | some cs=>R res (outs.take n++(cs++o))
   | none=>False)
 | _=>False
def Avl (n m:Nat) (g:Option Nat) (vs:List V):List V:=vs.take n++(A29 g ((vs.drop n).take m)::(vs.drop n).drop m)
def Ig (P:Program) (f d:Nat) (as:List (A×Bool)) (K:St→Prop) (σ:St):Prop:=
 match Lg as with
 | some (pre,g,bs,rest)=>(match Ee σ (pre++(bs.map (·,true)++rest)) 0 with
   | some (vs,ls,rs)=>Jy σ ls rs=true∧Tri P f (Avl pre.length bs.length g vs) (Zk pre.length g (Ff d ls rs K σ))
   | none=>False)
 | none=>match Ee σ as 0 with
   | some (vs,ls,rs)=>Jy σ ls rs=true∧Tri P f vs (Ff d ls rs K σ)
   | none=>False
theorem Aqe : ∀ {as:List (A×Bool)} {pre:List (A×Bool)} {g:Option Nat} {bs:List A} {rest:List (A×Bool)},Lg as=some (pre,g,bs,rest)→as=pre++((A45 g bs,true)::rest):=by
 intro as
 induction as with
 | nil=>intro pre g bs rest h;simp [Lg] at h
 | cons e r ih=>
   intro pre g bs rest h
   unfold Lg at h
   split at h
   ·cases h
   ·rename_i e2;cases h;cases e2;rfl
   ·rename_i e2;cases h;cases e2;rfl
   ·rename_i e2
    cases e2
    split at h
    ·rename_i h2
     cases h
     rw [ih h2];rfl
    ·cases h
theorem Add : ∀ {as:List (A×Bool)},(∀e∈as,e.2=false)→Lg as=none:=by
 intro as
 induction as with
 | nil=>intro _;rfl
 | cons e r ih=>
   intro h
   obtain ⟨a,io⟩:=e
   have h1:io=false:=h (a,io) (by simp)
   subst h1
   have h2:=ih fun e he=>h e (by simp [he])
   unfold Lg
   split
   ·rename_i e2;cases e2
   ·rename_i e2;cases e2
   ·rename_i e2;cases e2
   ·rename_i e2
    cases e2
    rw [h2]
def A14 (P:Program) (f:Nat) (args:List V) (vals uu:List Value) (R:V→List V→Prop):Prop:=
 ∀(w:World) (O:Nat→Prop) (fp:List Nat),RdL w O args vals fp→fp.Nodup →
   (∃fn c,P.funcs[f]? = some fn∧(fn.name == "runtime.NumGoroutine")=false∧fn.body=some c) ∧
   Calls P f uu.toArray w fun e w' => ∃res outs rv O' fpr fpo,R res outs∧e = .returned rv∧RdL w' O' [res] [rv] fpr∧RdL w' O' outs vals fpo∧(fpr++fpo).Nodup ∧
    Mv w O (· ∈ fp) w' O' (· ∈ fpr++fpo)
def A22 (P:Program) (w:World) (O0:Nat→Prop) (f:Nat) (args:List V) (vals uu:List Value) (R:V→List V→Prop):Prop:=
 ∀(O:Nat→Prop) (fp:List Nat),(∀b,¬O0 b→b<w.heap.size→¬O b)→RdL w O args vals fp→fp.Nodup →
   (∃fn c,P.funcs[f]? = some fn∧(fn.name == "runtime.NumGoroutine")=false∧fn.body=some c) ∧
   Calls P f uu.toArray w fun e w' => ∃res outs rv O' fpr fpo,R res outs∧e = .returned rv∧RdL w' O' [res] [rv] fpr∧RdL w' O' outs vals fpo∧(fpr++fpo).Nodup ∧
    Mv w O (· ∈ fp) w' O' (· ∈ fpr++fpo)
theorem A14.toW {P w O0 f args vals uu R} (h:A14 P f args vals uu R):A22 P w O0 f args vals uu R:=fun O fp _ h1 h2=>h w O fp h1 h2
def A2u (w:World) (O:Nat→Prop) (f m j:Nat) (vals:List Value):Prop:=
 ∃b o ex us ws,vals=ex++(us ++ .pointer (some ⟨b,o,none⟩)::ws)∧ex.length=m∧us.length=j ∧
   w.cell? ⟨b,o,none⟩=some (.func (.func f) #[] (us ++ .pointer (some ⟨b,o,none⟩)::ws).toArray)∧¬O b
def Av6 (P:Program) (f m j:Nat) (args:List V) (R:V→List V→Prop):Prop:=
 ∀(w:World) (O:Nat→Prop) (vals:List Value) (fp:List Nat),RdL w O args vals fp→fp.Nodup→A2u w O f m j vals →
   (∃fn c,P.funcs[f]? = some fn∧(fn.name == "runtime.NumGoroutine")=false∧fn.body=some c) ∧
   Calls P f vals.toArray w fun e w' => ∃res outs rv O' fpr fpo,R res outs∧e = .returned rv∧RdL w' O' [res] [rv] fpr∧RdL w' O' outs vals fpo∧(fpr++fpo).Nodup ∧
    Mv w O (· ∈ fp) w' O' (· ∈ fpr++fpo)
theorem Av6.mono {P f m j args} {R R':V→List V→Prop} (h:Av6 P f m j args R) (hr : ∀r o,R r o→R' r o):Av6 P f m j args R':=by
 intro w O vals fp h1 h2 ht
 obtain ⟨h3,h4⟩:=h w O vals fp h1 h2 ht
 refine ⟨h3,h4.mono ?_⟩
 rintro e w' ⟨res,outs,rv,O',fpr,fpo,hR,rest⟩
 exact ⟨res,outs,rv,O',fpr,fpo,hr _ _ hR,rest⟩
theorem Av6.toW {P w O0 f m j args vals R} (h:Av6 P f m j args R) (ht:A2u w O0 f m j vals):A22 P w O0 f args vals vals R:=by
 intro O fp hO h1 h2
 obtain ⟨b,o,ex,us,ws,e1,e2,e3,hc,hb⟩:=ht
 exact h w O vals fp h1 h2 ⟨b,o,ex,us,ws,e1,e2,e3,hc,hO b hb (Adj hc)⟩
theorem Tri.toL {P f args vals R} (h:Tri P f args R):A14 P f args vals vals R:=fun w O fp h1 h2=>h w O vals fp h1 h2
theorem RdL.grp_inv {w O cs vs fp} (h:RdL w O [.agg cs] [.agg vs] fp):RdL w O cs vs.toList fp:=by
 cases h with
 | leaf h _=>cases h
 | grp h s t=>cases h;cases t;simpa using s
 | fblk h _ _ _ _=>cases h
 | oblk h _ _ _ _ _=>cases h
theorem RdL.grpG_inv {w O} {g:Option Nat} {cs:List V} {us:List Value} {fp} (h:RdL w O [A29 g cs] [Afy g us] fp):RdL w O cs us fp:=by
 cases g with
 | none=>exact RdL.grp_inv h
 | some f=>
   cases h with
   | leaf h _=>cases h
   | grp h s t=>
     cases t
     have key : ∀ {v:Value} {ch vch},Grp (.clo f cs) v ch vch→v=Afy (some f) us→ch=cs∧vch=us:=by
      intro v ch vch hh hv
      cases hh
      simp only [Afy,Value.func.injEq] at hv
      exact ⟨rfl,by simpa using hv.2.2⟩
     obtain ⟨rfl,rfl⟩:=key h rfl
     simpa using s
   | fblk h _ _ _ _=>cases h
   | oblk h _ _ _ _ _=>cases h
theorem Tri.toAgg {P f args R} {g:Option Nat} {pvs bvs rvs:List Value} (hl:pvs.length+bvs.length≤args.length) (h:Tri P f (Avl pvs.length bvs.length g args) (Zk pvs.length g R)) :
  A14 P f args (pvs++(bvs++rvs)) (pvs++(Afy g bvs::rvs)) R:=by
 intro w O fp h1 h2
 rw [←List.take_append_drop pvs.length args] at h1
 obtain ⟨v0,v3,f0,f3,e0,rfl,r0,r3⟩:=RdL.split _ h1
 rw [←List.take_append_drop bvs.length (args.drop pvs.length)] at r3
 obtain ⟨v1,v2,f1,f2,e1,rfl,r1,r2⟩:=RdL.split _ r3
 have l0:=r0.length
 have l1:=r1.length
 have hv0:v0.length=pvs.length:=by rw [l0,List.length_take];omega
 have hv1:v1.length=bvs.length:=by rw [l1,List.length_take,List.length_drop];omega
 obtain ⟨rfl,e2⟩:=List.append_inj e0 hv0.symm
 rw [e1] at e2
 obtain ⟨rfl,rfl⟩:=List.append_inj e2 hv1.symm
 have rg:RdL w O (Avl pvs.length bvs.length g args) (pvs++(Afy g bvs::rvs)) (f0++(f1++f2)):=r0.append (by cases g with
  | none=>exact .grp (.agg _ _) r1 r2
  | some f=>exact .grp (.clo _ _ _) r1 r2)
 obtain ⟨hf,hc⟩:=h w O _ _ rg h2
 refine ⟨hf,hc.mono ?_⟩
 rintro e w' ⟨res,outs,rv,O',fpr,fpo,hR,he,q1,q2,q3,q4⟩
 unfold Zk at hR
 split at hR
 case h_2=>exact hR.elim
 rename_i gv o hdrop
 split at hR
 case h_2=>exact hR.elim
 rename_i cs hun
 have hgv:=Ay9 hun
 subst hgv
 have q2':=q2
 rw [←List.take_append_drop pvs.length outs,hdrop] at q2'
 obtain ⟨y0,y1,g0,g1,k0,rfl,s0,s1⟩:=RdL.split _ q2'
 have hlo:=q2.length
 have hy0:y0.length=pvs.length:=by
  rw [s0.length,List.length_take]
  have:outs.length=pvs.length+(rvs.length+1):=by simp at hlo;omega
  omega
 obtain ⟨rfl,k1⟩:=List.append_inj k0 hy0.symm
 subst k1
 obtain ⟨v,vs2,g2,g3,e2,rfl,s2,s3⟩:=s1.cons_split
 cases e2
 have s4:=s2.grpG_inv
 exact ⟨res,_,rv,O',fpr,_,hR,he,q1,by simpa using s0.append (s4.append s3),q3,q4⟩
theorem Z2 {σ a w O gv N vals fp} (h:Ok σ a w O gv N vals fp) {O2:Nat→Prop} (h1 : ∀b,¬O b→b<w.heap.size→¬O2 b) : ∀ {as:List (A×Bool)} {k us Vs rs},
  RelL w O (look σ) vals (as.map (·.1)) us→Ee σ as k=some (Vs,[],rs)→(∀r∈rs,∀b∈fp r,¬O2 b)→RdL w O2 Vs us []:=by
 intro as
 induction as with
 | nil=>intro k us Vs rs hr ha _;simp [Ee] at ha;obtain ⟨rfl,_⟩:=ha;cases hr;exact .nil
 | cons x rest ih=>
   intro k us Vs rs hr ha hR
   obtain ⟨x,io⟩:=x
   have hl:=hr.length
   match us,hl with
   | u::us,_=>
     obtain ⟨hr1,hr2⟩:=hr.uncons
     simp only [Ee] at ha
     split at ha
     ·cases ha
     ·rename_i vs ls rs' hrest
      split at ha
      ·cases ha
      ·split at ha
       ·rename_i v hv
        cases ha
        have h2:=Aoq h (O2:=O2) h1 hr1 (Us:=[v]) (by simp [Aea,hv]) (by intro r hr';exact hR r (by simp [E2] at hr';simp [hr']))
        simpa using h2.append (ih hr2 hrest fun r hr'=>hR r (by simp [hr']))
       ·cases ha
theorem Akc {σ a w O gv N vals fp} (h:Ok σ a w O gv N vals fp) : ∀ {as:List (A×Bool)} {k us Vs j r p rs},
  RelL w O (look σ) vals (as.map (·.1)) us→Ee σ as k=some (Vs,[(j,r,p)],rs) →
  ∃T u x l m vl vr,k≤j∧look σ r = .val T∧sub p T=some u∧u.node=true∧B5 w p (vals r)=some x∧Vs=l++u::m∧us=vl++x::vr∧l.length=j-k∧vl.length=j-k ∧
    ∀O2:Nat→Prop,(∀b,¬O b→b<w.heap.size→¬O2 b)→(∀r∈rs,∀b∈fp r,¬O2 b)→RdL w O2 l vl []∧RdL w O2 m vr []:=by
 intro as
 induction as with
 | nil=>intro k us Vs j r p rs hr ha;simp [Ee] at ha
 | cons x rest ih=>
   intro k us Vs j r p rs hr ha
   obtain ⟨x,io⟩:=x
   have hl:=hr.length
   match us,hl with
   | u::us,_=>
     obtain ⟨hr1,hr2⟩:=hr.uncons
     simp only [Ee] at ha
     split at ha
     ·cases ha
     ·rename_i vs ls rs' hrest
      split at ha
      ·rename_i r' p' u' hlent
       cases ha
       split at hlent
       ·unfold Sc at hlent
        split at hlent
        ·rename_i r2 p2
         split at hlent
         ·rename_i u2 hnode
          split at hlent
          ·rename_i hn
           cases hlent
           cases hr1 with
           | @ref _ _ T u3 _ _ _ hL hs hv _=>
             simp only [B0,hL,hs,Option.some.injEq] at hnode
             subst hnode
             refine ⟨T,u3,u,[],_,[],us,Nat.le_refl _,hL,hs,hn,hv,rfl,rfl,by simp,by simp,?_⟩
             intro O2 h1 hR
             exact ⟨.nil,Z2 h h1 hr2 hrest hR⟩
          ·cases hlent
         ·cases hlent
        ·cases hlent
       ·cases hlent
      ·split at ha
       ·rename_i v hv
        cases ha
        obtain ⟨T,u0,x0,l,m,vl,vr,hkj,hT,hs,hn,hva,e1,e2,l1,l2,hrd⟩:=ih hr2 hrest
        refine ⟨T,u0,x0,v::l,m,u::vl,vr,by omega,hT,hs,hn,hva,by simp [e1],by simp [e2],by simp [l1];omega,by simp [l2];omega,?_⟩
        intro O2 h1 hR
        obtain ⟨q1,q2⟩:=hrd O2 h1 fun r hr'=>hR r (by simp [hr'])
        have h2:=Aoq h (O2:=O2) h1 hr1 (Us:=[v]) (by simp [Aea,hv]) (by intro r hr';exact hR r (by simp [E2] at hr';simp [hr']))
        exact ⟨by simpa using h2.append q1,q2⟩
       ·cases ha
def Jq (w:World) (O:Nat→Prop) (gv:Nat→Value) (N:Nat) (fp:Nat→List Nat) (K:St→Prop) (next:Act→World→Prop):Prop:=
 ∀σ' a' w' O' vals' fp',K σ'→Ok σ' a' w' O' gv N vals' fp'→Mv w O (Sof fp) w' O' (Sof fp')→next a' w'
theorem L6 {P:Program} {o:Oper} {σ' a w O gv N fp next Q} {K:St→Prop} (h:Bo P o σ' a w O gv N fp) (hk:K σ') (hn:Jq w O gv N fp K next):o.wp P a w next Q:=by
 obtain ⟨v,w',O',vals',fp',hrun,ho,hm⟩:=h
 unfold Oper.wp
 rcases hrun with hrun | ⟨hrun,rfl⟩
 ·rw [hrun];exact hn σ' _ _ _ _ _ hk ho hm
 rw [hrun];exact hn σ' _ _ _ _ _ hk ho hm
theorem Ayv : ∀(p q:List Nat),Qa p q=true→p.length≤q.length∧(p.length=q.length→p=q):=by
 intro p
 induction p with
 | nil=>intro q _;exact ⟨Nat.zero_le _,fun h=>(List.length_eq_zero_iff.1 h.symm).symm⟩
 | cons c p ih=>
   intro q h
   match q with
   | []=>simp [Qa] at h
   | d::q=>
     simp only [Qa,Bool.and_eq_true] at h
     obtain ⟨h1,h2⟩:=ih q h.2
     have:c=d:=Nat.eq_of_beq_eq_true h.1
     subst this
     exact ⟨by simpa using h1,fun hl=>by rw [h2 (by simpa using hl)]⟩
theorem Wc {p q:List Nat} (hl:q.length≤p.length) (hne:q≠p):Qa p q=false:=by
 cases h:Qa p q with
 | false=>rfl
 | true=>
   obtain ⟨h1,h2⟩:=Ayv p q h
   exact absurd (h2 (by omega)).symm hne
theorem S0 {q p:List Nat} {o:V} (h:q.length<p.length+Mb o):q.length≤p.length∧(q.length=p.length→o.node=true):=by
 cases hn:o.node with
 | true=>rw [Og hn] at h;exact ⟨by omega,fun _=>rfl⟩
 | false=>simp only [Mb,hn] at h;exact ⟨by omega,fun e=>by omega⟩
theorem Az2 {σ a w O gv N vals fp} (h:Ok σ a w O gv N vals fp) {r1 r2:Nat} {p1 p2:List Nat} {T1 T2 u1 u2:V} (hT1:look σ r1 = .val T1) (hT2:look σ r2 = .val T2) (hs1:sub p1 T1=some u1) (hs2:sub p2 T2=some u2)
  (hap:Atl r1 p1 r2 p2 (look σ r1)=true) {x1 x2:Value} (hv1:B5 w p1 (vals r1)=some x1) (hv2:B5 w p2 (vals r2)=some x2) :
  ∃fu1 fu2,RdL w O [u1] [x1] fu1∧RdL w O [u2] [x2] fu2∧(fu1++fu2).Nodup∧(∀b∈fu1,b∈fp r1)∧(∀b∈fu2,b∈fp r2) ∧
    ∀w' O2 o1 o2 fo1 fo2 σ',Iq w O w' O2→(∀b,Sof fp b→b∉fu1++fu2→w'.heap[b]? = w.heap[b]? ∧ O2 b)→RdL w' O2 [o1] [x1] fo1→RdL w' O2 [o2] [x2] fo2→(fo1++fo2).Nodup →
      (∀b∈fo1++fo2,Sof fp b→b∈fu1++fu2)→Ank r1 p1 r2 p2 o1 o2 σ=some σ' →
      ∃fp',Ok σ' a w' O2 gv N vals fp' ∧ ∀b,Sof fp' b→(Sof fp b∧b∉fu1++fu2)∨b∈fo1++fo2:=by
 have hR1:=h.sim.own r1 T1 hT1
 have hR2:=h.sim.own r2 T2 hT2
 by_cases hrr:r1=r2
 ·subst hrr
  rw [hT1] at hT2
  cases hT2
  have hbb:Nat.beq r1 r1=true:=Nat.beq_refl r1
  simp only [Atl,hbb,hT1,Bool.and_eq_true,Bool.not_eq_true'] at hap
  obtain ⟨⟨d1,d2⟩,hap⟩:=hap
  split at hap
  case h_2=>cases hap
  rename_i H1 hH1
  obtain ⟨H2,hH2⟩:=Option.isSome_iff_exists.1 hap
  obtain ⟨z1,A1,fu1,B1,e1,hz1,hru1,hset1⟩:=ctx p1 hR1 hs1
  rw [hv1] at hz1;cases hz1
  have hst0 : ∀b,¬O b→b<w.heap.size→w.heap[b]? = w.heap[b]? ∧ ¬O b:=fun b hb _=>⟨rfl,hb⟩
  have hown0 : ∀b,b∈A1++B1→w.heap[b]? = w.heap[b]? ∧ O b:=fun b hb=>⟨rfl,(hR1.fpO b (by rw [e1];simp at hb ⊢;rcases hb with h | h<;>simp [h])).1⟩
  have hRH:RdL w O [H1] [vals r1] (A1++([]++B1)):=hset1 w O H1 .dead [] hH1 hown0 hst0 (.leaf (.dead _) .nil)
  have hs2':sub p2 H1=some u2:=by rw [Tx p1 p2 hs1 hH1 d1 d2];exact hs2
  obtain ⟨z2,A2,fu2,B2,e2,hz2,hru2,hset2⟩:=ctx p2 hRH hs2'
  rw [hv2] at hz2;cases hz2
  have hdead1:sub p1 H1=some .dead:=E0 p1 hs1 hH1
  have hRH2:RdL w O [H2] [vals r1] (A2++([]++B2)):=hset2 w O H2 .dead [] hH2 (fun b hb=>⟨rfl,(hRH.fpO b (by rw [e2];simp at hb ⊢;rcases hb with h | h<;>simp [h])).1⟩) hst0 (.leaf (.dead _) .nil)
  have hmemf : ∀b,b∈fp r1↔b∈fu1∨b∈fu2∨b∈A2++B2:=by
   intro b
   have e2':A1++B1=A2++(fu2++B2):=by simpa using e2
   have:b∈A1++B1↔b∈fu2∨b∈A2++B2:=by
    rw [e2'];simp only [List.mem_append]
    constructor
    ·rintro (h | h | h)<;>simp [h]
    ·rintro (h | h | h)<;>simp [h]
   rw [e1]
   simp only [List.mem_append] at this ⊢
   constructor
   ·rintro (h | h | h)
    ·exact .inr (this.1 (.inl h))
    ·exact .inl h
    ·exact .inr (this.1 (.inr h))
   ·rintro (h | h)
    ·exact .inr (.inl h)
    ·rcases this.2 h with h | h
     ·exact .inl h
     ·exact .inr (.inr h)
  have hnd:=h.sim.nd r1
  have hperm:(fp r1).Perm (fu1++(fu2++(A2++B2))):=by
   have e2':A1++B1=A2++(fu2++B2):=by simpa using e2
   rw [e1]
   refine (List.perm_append_comm_assoc A1 fu1 B1).trans ?_
   rw [e2']
   exact (List.perm_append_comm_assoc A2 fu2 B2).append_left fu1
  have hnd2:=hperm.nodup_iff.1 hnd
  have nd1:=List.nodup_append.1 hnd2
  have nd2:=List.nodup_append.1 nd1.2.1
  refine ⟨fu1,fu2,hru1,hru2,?_,fun b hb=>(hmemf b).2 (.inl hb),fun b hb=>(hmemf b).2 (.inr (.inl hb)),?_⟩
  ·exact List.nodup_append.2 ⟨nd1.1,nd2.1,fun b hb c hc=>nd1.2.2 b hb c (by simp [hc])⟩
  intro w' O2 o1 o2 fo1 fo2 σ' hst hsame ro1 ro2 hndo hold hback
  simp only [Ank,hbb,hT1,A4w,hH1] at hback
  split at hback
  case h_2=>cases hback
  rename_i T'' hup
  cases hback
  split at hup
  case h_2=>cases hup
  rename_i U2 hU2
  have hrest : ∀b∈A2++B2,b∈fp r1∧b∉fu1++fu2:=by
   intro b hb
   refine ⟨(hmemf b).2 (.inr (.inr hb)),fun hc=> ?_⟩
   rcases List.mem_append.1 hc with hc | hc
   ·exact nd1.2.2 b hc b (List.mem_append_right _ hb) rfl
   ·exact nd2.2.2 b hc b hb rfl
  have hrest2 : ∀b∈A2++B2,w'.heap[b]? = w.heap[b]? ∧ O2 b:=fun b hb=>hsame b ⟨r1,(hrest b hb).1⟩ (hrest b hb).2
  have hRU:RdL w' O2 [U2] [vals r1] (A2++(fo2++B2)):=hset2 w' O2 U2 o2 fo2 hU2 hrest2 hst ro2
  have hdeadU:sub p1 U2=some .dead:=by rw [Tx p2 p1 hs2' hU2 d2 d1];exact hdead1
  have hdeadH:sub p1 H2=some .dead:=by rw [Tx p2 p1 hs2' hH2 d2 d1];exact hdead1
  have hval : ∀q u,sub q H2=some u→B5 w' q (vals r1)=B5 w q (vals r1):=fun q u hq=>J4 q hRH2 hq fun b hb=>(hrest2 b (by simpa using hb)).1
  obtain ⟨z3,A3,fd,B3,e3,hz3,hrd,hset3⟩:=ctx p1 hRU hdeadU
  rw [hval p1 _ hdeadH,hv1] at hz3;cases hz3
  have hfd:fd=[]:=hrd.noOwn rfl
  subst hfd
  have e3':A2++(fo2++B2)=A3++B3:=by simpa using e3
  have hRT:RdL w' O2 [T''] [vals r1] (A3++(fo1++B3)):=hset3 w' O2 T'' o1 fo1 hup (fun b hb=>⟨rfl,(hRU.fpO b (by rw [e3'];exact hb)).1⟩) (fun b hb _=>⟨rfl,hb⟩) ro1
  have hperm2:(A3++(fo1++B3)).Perm ((fo1++fo2)++(A2++B2)):=by
   refine (List.perm_append_comm_assoc A3 fo1 B3).trans ?_
   rw [←e3',List.append_assoc]
   exact (List.perm_append_comm_assoc A2 fo2 B2).append_left fo1
  have hndT:(A3++(fo1++B3)).Nodup:=by
   rw [hperm2.nodup_iff]
   refine List.nodup_append.2 ⟨hndo,nd2.2.1,?_⟩
   rintro b hb c hc rfl
   exact (hrest b hc).2 (hold b hb ⟨r1,(hrest b hc).1⟩)
  have hmemT : ∀b,b∈A3++(fo1++B3)↔b∈fo1++fo2∨b∈A2++B2:=fun b=>by rw [hperm2.mem_iff,List.mem_append]
  have hsubT : ∀q u,q.length<p1.length+Mb o1→q.length<p2.length+Mb o2→sub q T1=some u→(∃u',sub q H2=some u') ∧ ∃u',sub q T''=some u'∧(u.node=true→u'.node=true):=by
   intro q u l1' l2' hq
   have l1:=(S0 l1').1
   have l2:=(S0 l2').1
   by_cases hq1:q=p1
   ·subst hq1
    exact ⟨⟨_,hdeadH⟩,o1,E0 q hdeadU hup,fun _=>(S0 l1').2 rfl⟩
   ·by_cases hq2:q=p2
    ·subst hq2
     refine ⟨⟨_,E0 q hs2' hH2⟩,o2,?_,fun _=>(S0 l2').2 rfl⟩
     rw [Tx p1 q hdeadU hup d1 d2]
     exact E0 q hs2' hU2
    ·obtain ⟨v1,k1,m1⟩:=J2 p1 q hq hs1 hH1 (Wc l1 hq1)
     obtain ⟨v2,k2,_⟩:=J2 p2 q k1 hs2' hH2 (Wc l2 hq2)
     obtain ⟨v3,k3,m3⟩:=J2 p2 q k1 hs2' hU2 (Wc l2 hq2)
     obtain ⟨v4,k4,m4⟩:=J2 p1 q k3 hdeadU hup (Wc l1 hq1)
     exact ⟨⟨_,k2⟩,v4,k4,fun hn=>m4 (m3 (m1 hn))⟩
  have hsim:=h.sim.turn (w':=w') (O':=O2) r1 (min (p1.length+Mb o1) (p2.length+Mb o2)) T1 T'' (A3++(fo1++B3)) hT1 hst (fun s hs b hb=>by
    refine hsame b ⟨s,hb⟩ fun hc=> ?_
    have:b∈fp r1:=(hmemf b).2 (by rcases List.mem_append.1 hc with h | h;exact .inl h;exact .inr (.inl h))
    exact hs (h.sim.dj s r1 b hb this)) hRT hndT (by
    intro b hb s hs hbs
    rcases (hmemT b).1 hb with h1 | h1
    ·have:=hold b h1 ⟨s,hbs⟩
     have hb1:b∈fp r1:=(hmemf b).2 (by rcases List.mem_append.1 this with h | h;exact .inl h;exact .inr (.inl h))
     exact hs (h.sim.dj s r1 b hbs hb1)
    ·exact hs (h.sim.dj s r1 b hbs (hrest b h1).1)) (by
    intro q u v hl hq hvq
    obtain ⟨⟨u',k1⟩,u2',k2,k3⟩:=hsubT q u (by omega) (by omega) hq
    exact ⟨u2',k2,k3,by rw [hval q u' k1];exact hvq⟩)
  rw [←J9 hT1] at hsim
  refine ⟨_,⟨hsim,h.lo,h.hi,h.sz,h.df⟩,?_⟩
  rintro b ⟨s,hs⟩
  simp only [upF] at hs
  split at hs
  ·rcases (hmemT b).1 hs with h1 | h1
   ·exact .inr h1
   exact .inl ⟨⟨r1,(hrest b h1).1⟩,(hrest b h1).2⟩
  rename_i hne
  refine .inl ⟨⟨s,hs⟩,fun hc=> ?_⟩
  have:b∈fp r1:=(hmemf b).2 (by rcases List.mem_append.1 hc with h | h;exact .inl h;exact .inr (.inl h))
  exact hne (h.sim.dj s r1 b hs this)
 obtain ⟨z1,A1,fu1,B1,e1,hz1,hru1,hset1⟩:=ctx p1 hR1 hs1
 rw [hv1] at hz1;cases hz1
 obtain ⟨z2,A2,fu2,B2,e2,hz2,hru2,hset2⟩:=ctx p2 hR2 hs2
 rw [hv2] at hz2;cases hz2
 have m1 : ∀b∈fu1,b∈fp r1:=fun b hb=>by rw [e1];simp [hb]
 have m2 : ∀b∈fu2,b∈fp r2:=fun b hb=>by rw [e2];simp [hb]
 have hnd1:=h.sim.nd r1
 have hnd2:=h.sim.nd r2
 rw [e1] at hnd1
 rw [e2] at hnd2
 have a1:=List.nodup_append.1 hnd1
 have a2:=List.nodup_append.1 a1.2.1
 have b1:=List.nodup_append.1 hnd2
 have b2:=List.nodup_append.1 b1.2.1
 have hrest1 : ∀b∈A1++B1,b∈fp r1∧b∉fu1++fu2:=by
  intro b hb
  have hm:b∈fp r1:=by rw [e1];simp at hb ⊢;rcases hb with h | h<;>simp [h]
  refine ⟨hm,fun hc=> ?_⟩
  rcases List.mem_append.1 hc with hc | hc
  ·rcases List.mem_append.1 hb with h1 | h1
   ·exact a1.2.2 b h1 b (by simp [hc]) rfl
   ·exact a2.2.2 b hc b h1 rfl
  ·exact hrr (h.sim.dj r1 r2 b hm (m2 b hc))
 have hrest2 : ∀b∈A2++B2,b∈fp r2∧b∉fu1++fu2:=by
  intro b hb
  have hm:b∈fp r2:=by rw [e2];simp at hb ⊢;rcases hb with h | h<;>simp [h]
  refine ⟨hm,fun hc=> ?_⟩
  rcases List.mem_append.1 hc with hc | hc
  ·exact hrr (h.sim.dj r1 r2 b (m1 b hc) hm)
  ·rcases List.mem_append.1 hb with h1 | h1
   ·exact b1.2.2 b h1 b (by simp [hc]) rfl
   ·exact b2.2.2 b hc b h1 rfl
 refine ⟨fu1,fu2,hru1,hru2,?_,m1,m2,?_⟩
 ·refine List.nodup_append.2 ⟨a2.1,b2.1,?_⟩
  rintro b hb c hc rfl
  exact hrr (h.sim.dj r1 r2 b (m1 b hb) (m2 b hc))
 intro w' O2 o1 o2 fo1 fo2 σ' hst hsame ro1 ro2 hndo hold hback
 have hbb:Nat.beq r1 r2=false:=by
  cases hb:Nat.beq r1 r2 with
  | false=>rfl
  | true=>exact absurd (Nat.eq_of_beq_eq_true hb) hrr
 simp only [Ank,hbb,hT1,hT2] at hback
 split at hback
 case h_2=>cases hback
 rename_i T1' T2' hu1 hu2
 cases hback
 have q1:RdL w' O2 [T1'] [vals r1] (A1++(fo1++B1)):=hset1 w' O2 T1' o1 fo1 hu1 (fun b hb=>hsame b ⟨r1,(hrest1 b hb).1⟩ (hrest1 b hb).2) hst ro1
 have q2:RdL w' O2 [T2'] [vals r2] (A2++(fo2++B2)):=hset2 w' O2 T2' o2 fo2 hu2 (fun b hb=>hsame b ⟨r2,(hrest2 b hb).1⟩ (hrest2 b hb).2) hst ro2
 have hndo':=List.nodup_append.1 hndo
 have old1 : ∀b∈fo1,∀s,b∈fp s→s=r1∨s=r2:=fun b hb s hs=>by
  rcases List.mem_append.1 (hold b (by simp [hb]) ⟨s,hs⟩) with h1 | h1
  ·exact .inl (h.sim.dj s r1 b hs (m1 b h1))
  ·exact .inr (h.sim.dj s r2 b hs (m2 b h1))
 have old2 : ∀b∈fo2,∀s,b∈fp s→s=r1∨s=r2:=fun b hb s hs=>by
  rcases List.mem_append.1 (hold b (by simp [hb]) ⟨s,hs⟩) with h1 | h1
  ·exact .inl (h.sim.dj s r1 b hs (m1 b h1))
  ·exact .inr (h.sim.dj s r2 b hs (m2 b h1))
 have ndn1:(A1++(fo1++B1)).Nodup:=by
  refine List.nodup_append.2 ⟨a1.1,List.nodup_append.2 ⟨hndo'.1,a2.2.1,?_⟩,?_⟩
  ·rintro b hb c hc rfl
   exact (hrest1 b (by simp [hc])).2 (hold b (by simp [hb]) ⟨r1,(hrest1 b (by simp [hc])).1⟩)
  ·rintro b hb c hc rfl
   rcases List.mem_append.1 hc with h1 | h1
   ·exact (hrest1 b (by simp [hb])).2 (hold b (by simp [h1]) ⟨r1,(hrest1 b (by simp [hb])).1⟩)
   ·exact a1.2.2 b hb b (by simp [h1]) rfl
 have ndn2:(A2++(fo2++B2)).Nodup:=by
  refine List.nodup_append.2 ⟨b1.1,List.nodup_append.2 ⟨hndo'.2.1,b2.2.1,?_⟩,?_⟩
  ·rintro b hb c hc rfl
   exact (hrest2 b (by simp [hc])).2 (hold b (by simp [hb]) ⟨r2,(hrest2 b (by simp [hc])).1⟩)
  ·rintro b hb c hc rfl
   rcases List.mem_append.1 hc with h1 | h1
   ·exact (hrest2 b (by simp [hb])).2 (hold b (by simp [h1]) ⟨r2,(hrest2 b (by simp [hb])).1⟩)
   ·exact b1.2.2 b hb b (by simp [h1]) rfl
 have same1 : ∀b'∈fp r1,b'∉fu1→w'.heap[b']? = w.heap[b']? := fun b hb hbu=>(hsame b ⟨r1,hb⟩ fun hc=>by
  rcases List.mem_append.1 hc with h1 | h1
  ·exact hbu h1
  ·exact hrr (h.sim.dj r1 r2 b hb (m2 b h1))).1
 have same2 : ∀b'∈fp r2,b'∉fu2→w'.heap[b']? = w.heap[b']? := fun b hb hbu=>(hsame b ⟨r2,hb⟩ fun hc=>by
  rcases List.mem_append.1 hc with h1 | h1
  ·exact hrr (h.sim.dj r1 r2 b (m1 b h1) hb)
  ·exact hbu h1).1
 have eL1:=J9 (r:=r1) (U':=T1') (n:=p1.length+Mb o1) hT1
 have hT2':look (Hq r1 T1' (p1.length+Mb o1) σ) r2 = .val T2:=by
  rw [eL1];simp only [if_neg (Ne.symm hrr),hT2,A.mapR]
 have eL2:=J9 (r:=r2) (U':=T2') (n:=p2.length+Mb o2) hT2'
 let fp':Nat→List Nat:=fun s=>if s=r1 then A1++(fo1++B1) else if s=r2 then A2++(fo2++B2) else fp s
 have memfp : ∀s b,b∈fp' s→(b∈fp s∧b∉fu1++fu2)∨(s=r1∧b∈fo1)∨(s=r2∧b∈fo2):=by
  intro s b hb
  simp only [fp'] at hb
  split at hb
  ·rename_i e;subst e
   simp only [List.mem_append] at hb
   rcases hb with h1 | h1 | h1
   ·exact .inl (hrest1 b (by simp [h1]))
   ·exact .inr (.inl ⟨rfl,h1⟩)
   ·exact .inl (hrest1 b (by simp [h1]))
  ·split at hb
   ·rename_i e;subst e
    simp only [List.mem_append] at hb
    rcases hb with h1 | h1 | h1
    ·exact .inl (hrest2 b (by simp [h1]))
    ·exact .inr (.inr ⟨rfl,h1⟩)
    ·exact .inl (hrest2 b (by simp [h1]))
   ·rename_i n1 n2
    refine .inl ⟨hb,fun hc=> ?_⟩
    rcases List.mem_append.1 hc with h1 | h1
    ·exact n1 (h.sim.dj s r1 b hb (m1 b h1))
    ·exact n2 (h.sim.dj s r2 b hb (m2 b h1))
 have hsim:=h.sim.turnM (w':=w') (O':=O2) (L':=look (Hq r2 T2' (p2.length+Mb o2) (Hq r1 T1' (p1.length+Mb o1) σ))) (fp':=fp') (fun r p=>(Ao r1 (p1.length+Mb o1) r p).bind fun r'=>Ao r2 (p2.length+Mb o2) r' p) hst (by
   intro r p r' hg
   obtain ⟨r3,g1,g2⟩:=Option.bind_eq_some_iff.1 hg
   simp only [Ao] at g1 g2
   split at g1
   ·cases g1
   ·cases g1
    split at g2
    ·cases g2
    ·cases g2;rfl) (by
   intro s V hV
   rw [eL2]
   by_cases e1:s=r1
   ·subst e1
    rw [hT1] at hV;cases hV
    refine ⟨T1',by simp only [if_neg hrr,eL1,if_true,A.mapR],by simpa [fp'] using q1,by simpa [fp'] using ndn1,?_⟩
    intro q u v hg hq hvq
    obtain ⟨r3,g1,_⟩:=Option.bind_eq_some_iff.1 hg
    have hl':q.length<p1.length+Mb o1:=by
     simp only [Ao] at g1
     split at g1
     ·cases g1
     ·rename_i hc
      rcases Nat.lt_or_ge q.length (p1.length+Mb o1) with h5 | h5
      ·exact h5
      ·simp at hc;omega
    have hl:=(S0 hl').1
    obtain ⟨u3,k1,k2⟩:=Adp p1 q hq hs1 hu1 hl fun e _=>(S0 hl').2 e
    exact ⟨u3,k1,k2,by rw [So p1 q hR1 (h.sim.nd s) hs1 hq hl hv1 hru1 same1];exact hvq⟩
   ·by_cases e2:s=r2
    ·subst e2
     rw [hT2] at hV;cases hV
     refine ⟨T2',by simp only [if_true],by simpa [fp',e1] using q2,by simpa [fp',e1] using ndn2,?_⟩
     intro q u v hg hq hvq
     obtain ⟨r3,g1,g2⟩:=Option.bind_eq_some_iff.1 hg
     have hl':q.length<p2.length+Mb o2:=by
      have:r3=s:=by
       simp only [Ao] at g1
       split at g1
       ·cases g1
       ·cases g1;rfl
      subst this
      simp only [Ao] at g2
      split at g2
      ·cases g2
      ·rename_i hc
       rcases Nat.lt_or_ge q.length (p2.length+Mb o2) with h5 | h5
       ·exact h5
       ·simp at hc;omega
     have hl:=(S0 hl').1
     obtain ⟨u3,k1,k2⟩:=Adp p2 q hq hs2 hu2 hl fun e _=>(S0 hl').2 e
     exact ⟨u3,k1,k2,by rw [So p2 q hR2 (h.sim.nd _) hs2 hq hl hv2 hru2 same2];exact hvq⟩
    ·have hr:=h.sim.own s V hV
     have hsb : ∀b∈fp s,w'.heap[b]? = w.heap[b]? ∧ O2 b:=fun b hb=>hsame b ⟨s,hb⟩ fun hc=>by
      rcases List.mem_append.1 hc with h1 | h1
      ·exact e1 (h.sim.dj s r1 b hb (m1 b h1))
      ·exact e2 (h.sim.dj s r2 b hb (m2 b h1))
     refine ⟨V,by simp only [if_neg e2,eL1,if_neg e1,hV,A.mapR],by simpa [fp',e1,e2] using hr.frame hsb hst,by simpa [fp',e1,e2] using h.sim.nd s,?_⟩
     intro q u v _ hq hvq
     exact ⟨u,hq,id,by rw [J4 q hr hq fun b hb=>(hsb b hb).1];exact hvq⟩) (by
   intro s hn
   have n1:s≠r1:=by rintro rfl;exact hn T1 hT1
   have n2:s≠r2:=by rintro rfl;exact hn T2 hT2
   refine ⟨?_,by simpa [fp',n1,n2] using h.sim.non s hn⟩
   rw [eL2]
   simp only [if_neg n2,eL1,if_neg n1]
   exact Anc _ _ _) (by
   intro s t b g1 g2
   rcases memfp s b g1 with ⟨k1,k2⟩ | ⟨rfl,k1⟩ | ⟨rfl,k1⟩
   ·rcases memfp t b g2 with ⟨l1,_⟩ | ⟨rfl,l1⟩ | ⟨rfl,l1⟩
    ·exact h.sim.dj s t b k1 l1
    ·exact absurd (hold b (by simp [l1]) ⟨s,k1⟩) k2
    ·exact absurd (hold b (by simp [l1]) ⟨s,k1⟩) k2
   ·rcases memfp t b g2 with ⟨l1,l2⟩ | ⟨rfl,l1⟩ | ⟨rfl,l1⟩
    ·exact absurd (hold b (by simp [k1]) ⟨t,l1⟩) l2
    ·rfl
    ·exact absurd rfl (hndo'.2.2 b k1 b l1)
   ·rcases memfp t b g2 with ⟨l1,l2⟩ | ⟨rfl,l1⟩ | ⟨rfl,l1⟩
    ·exact absurd (hold b (by simp [k1]) ⟨t,l1⟩) l2
    ·exact absurd rfl (hndo'.2.2 b l1 b k1)
    ·rfl)
 refine ⟨fp',⟨hsim,h.lo,h.hi,h.sz,h.df⟩,?_⟩
 rintro b ⟨s,hs⟩
 rcases memfp s b hs with ⟨k1,k2⟩ | ⟨_,k1⟩ | ⟨_,k1⟩
 ·exact .inl ⟨⟨s,k1⟩,k2⟩
 ·exact .inr (by simp [k1])
 exact .inr (by simp [k1])
theorem Aq4 {σ a w O gv N vals fp} (h:Ok σ a w O gv N vals fp) : ∀ {as:List (A×Bool)} {k us Vs j1 r1 p1 j2 r2 p2 rs},
  RelL w O (look σ) vals (as.map (·.1)) us→Ee σ as k=some (Vs,[(j1,r1,p1),(j2,r2,p2)],rs) →
  ∃T1 u1 x1 T2 u2 x2,k≤j1∧j1<j2∧look σ r1 = .val T1∧sub p1 T1=some u1∧B5 w p1 (vals r1)=some x1∧look σ r2 = .val T2∧sub p2 T2=some u2∧B5 w p2 (vals r2)=some x2 ∧
    us[j1-k]? = some x1∧us[j2-k]? = some x2 ∧
    ∀(O2:Nat→Prop) (f1 f2:List Nat),(∀b,¬O b→b<w.heap.size→¬O2 b)→(∀r∈rs,∀b∈fp r,¬O2 b)→RdL w O2 [u1] [x1] f1→RdL w O2 [u2] [x2] f2→RdL w O2 Vs us (f1++f2):=by
 intro as
 induction as with
 | nil=>intro k us Vs j1 r1 p1 j2 r2 p2 rs hr ha;simp [Ee] at ha
 | cons x rest ih=>
   intro k us Vs j1 r1 p1 j2 r2 p2 rs hr ha
   obtain ⟨x,io⟩:=x
   have hl:=hr.length
   match us,hl with
   | u::us,_=>
     obtain ⟨hr1,hr2⟩:=hr.uncons
     simp only [Ee] at ha
     split at ha
     ·cases ha
     ·rename_i vs ls rs' hrest
      split at ha
      ·rename_i r' p' u' hlent
       cases ha
       split at hlent
       ·unfold Sc at hlent
        split at hlent
        ·rename_i r3 p3
         split at hlent
         ·rename_i u3 hnode
          split at hlent
          ·rename_i hn
           cases hlent
           cases hr1 with
           | @ref _ _ T u4 _ _ _ hL hs hv _=>
             simp only [B0,hL,hs,Option.some.injEq] at hnode
             subst hnode
             obtain ⟨T2,u2,x2,l,m,vl,vr,hkj,hT,hs2,_,hva,e1,e2,l1,l2,hrd⟩:=Akc h hr2 hrest
             refine ⟨T,u4,u,T2,u2,x2,Nat.le_refl _,by omega,hL,hs,hv,hT,hs2,hva,by simp,?_,?_⟩
             ·rw [show j2-k=(j2-(k+1))+1 by omega,List.getElem?_cons_succ,e2,List.getElem?_append_right (by omega),l2];simp
             ·intro O2 f1 f2 h1 hR g1 g2
              obtain ⟨q1,q2⟩:=hrd O2 h1 hR
              have:RdL w O2 vs us f2:=by
               rw [e1,e2]
               simpa using q1.append (g2.cons_join q2)
              exact g1.cons_join this
          ·cases hlent
         ·cases hlent
        ·cases hlent
       ·cases hlent
      ·split at ha
       ·rename_i v hv
        cases ha
        obtain ⟨T1,u1,x1,T2,u2,x2,hkj,hjj,a1,a2,a3,a4,a5,a6,a7,a8,hrd⟩:=ih hr2 hrest
        refine ⟨T1,u1,x1,T2,u2,x2,by omega,hjj,a1,a2,a3,a4,a5,a6,?_,?_,?_⟩
        ·rw [show j1-k=(j1-(k+1))+1 by omega,List.getElem?_cons_succ];exact a7
        ·rw [show j2-k=(j2-(k+1))+1 by omega,List.getElem?_cons_succ];exact a8
        ·intro O2 f1 f2 h1 hR g1 g2
         have h2:=Aoq h (O2:=O2) h1 hr1 (Us:=[v]) (by simp [Aea,hv]) (by intro r hr';exact hR r (by simp [E2] at hr';simp [hr']))
         simpa using h2.append (hrd O2 f1 f2 h1 (fun r hr'=>hR r (by simp [hr'])) g1 g2)
       ·cases ha
theorem Anf {P:Program} {o:Oper} {σ a w O gv N vals fp} {f d:Nat} {as:List (A×Bool)} {us uu:List Value} {Vs:List V} {ls:List (Nat×Nat×List Nat)} {rs:List Nat} {K:St→Prop} {next Q}
  (h:Ok σ a w O gv N vals fp) (hd:o.dst=some d) (hN:d<N)
  (hr:RelL w O (look σ) vals (as.map (·.1)) us) (hargs:Ee σ as 0=some (Vs,ls,rs)) (hroots:Jy σ ls rs=true) (htri:A22 P w O f Vs us uu (Ff d ls rs K σ)) (hn:Jq w O gv N fp K next)
  (hrun:(∃fn c,P.funcs[f]? = some fn∧(fn.name == "runtime.NumGoroutine")=false∧fn.body=some c)→(execOp a.eval o).run P w = .ok (.enter f uu.toArray) w):o.wp P a w next Q:=by
 unfold Oper.wp
 match ls,hroots,htri,hargs with
 | [],_,htri,hargs=>
   by_cases hrs:rs=[]
   ·subst hrs
    have hrd:=Z2 h (O2:=O) (fun b hb _=>hb) hr hargs (by simp)
    obtain ⟨hfn,hcall⟩:=htri O [] (fun b hb _=>hb) hrd (by simp)
    rw [hrun hfn]
    refine hcall.mono ?_
    rintro e w' ⟨res,outs,rv,O',fpr,fpo,hR,rfl,r1,_,hnd,hm⟩
    obtain ⟨_,hK⟩:=hR
    have hst:Iq w O w' O':=fun b hb hlt=>by have:=hm.same b hlt (by simp);exact ⟨this.1,fun hh=>hb (this.2.1 hh)⟩
    have o1:Ok σ a w' O' gv N vals fp:=h.world hst fun b ⟨s,hs⟩=>by
     obtain ⟨hO,hlt⟩:=h.sim.fpO s b hs
     have:=hm.same b hlt (by simp);exact ⟨this.1,this.2.2 hO⟩
    have hnew : ∀b∈fpr,w.heap.size≤b:=fun b hb=>(hm.new b (by simp [hb])).elim (by simp) id
    obtain ⟨fp',o2,s2⟩:=o1.put_own hN r1 (List.nodup_append.1 hnd).1 (fun b hb ⟨s,hs⟩=>by have:=(h.sim.fpO s b hs).2;have:=hnew b hb;omega)
    refine hn _ _ _ _ _ _ hK (by rw [hd];exact o2) ⟨hm.os,hm.tape,hm.output,hm.size,fun b hb _=>hm.same b hb (by simp),fun b hb=> ?_⟩
    rcases s2 b hb with h1 | h1
    ·exact .inl h1
    ·exact .inr (hnew b h1)
   ·have hrd:=Z2 h (O2:=fun _=>False) (fun _ _ _=>id) hr hargs (fun _ _ _ _=>id)
    obtain ⟨hfn,hcall⟩:=htri (fun _=>False) [] (fun _ _ _=>id) hrd (by simp)
    rw [hrun hfn]
    refine hcall.mono ?_
    rintro e w' ⟨res,outs,rv,O',fpr,fpo,hR,rfl,r1,_,hnd,hm⟩
    obtain ⟨hok,hK⟩:=hR
    have hnf:res.noFz=true:=by simpa [Ea,hrs] using hok
    have hnew : ∀b∈fpr,w.heap.size≤b:=fun b hb=>(hm.new b (by simp [hb])).elim (by simp) id
    let O2:Nat→Prop:=fun b=>if b<w.heap.size then O b else b∈fpr
    have hO2 : ∀b,b<w.heap.size→(O2 b↔O b):=fun b hb=>by simp [O2,hb]
    have hst:Iq w O w' O2:=fun b hb hlt=>⟨(hm.same b hlt (by simp)).1,fun hh=>hb ((hO2 b hlt).1 hh)⟩
    have o1:Ok σ a w' O2 gv N vals fp:=h.world hst fun b ⟨s,hs⟩=>by
     obtain ⟨hO,hlt⟩:=h.sim.fpO s b hs
     exact ⟨(hm.same b hlt (by simp)).1,(hO2 b hlt).2 hO⟩
    have r2:RdL w' O2 [res] [rv] fpr:=r1.retag (by simp [Ce,hnf]) fun b hb=>by simp only [O2];rw [if_neg (by have:=hnew b hb;omega)];exact hb
    obtain ⟨fp',o2,s2⟩:=o1.put_own hN r2 (List.nodup_append.1 hnd).1 (fun b hb ⟨s,hs⟩=>by have:=(h.sim.fpO s b hs).2;have:=hnew b hb;omega)
    refine hn _ _ _ _ _ _ hK (by rw [hd];exact o2) ⟨hm.os,hm.tape,hm.output,hm.size,fun b hb _=>⟨(hm.same b hb (by simp)).1,hO2 b hb⟩,fun b hb=> ?_⟩
    rcases s2 b hb with h1 | h1
    ·exact .inl h1
    ·exact .inr (hnew b h1)
 | [(j,r,p)],hroots,htri,hargs=>
   have hroot:r∉rs:=by simpa [Jy] using hroots
   obtain ⟨T,u,x,l,m,vl,vr,_,hT,hsu,hnode,hva,eV,eu,hl,hvl,hrd⟩:=Akc h hr hargs
   have hR:=h.sim.own r T hT
   obtain ⟨z,f1,fu,f2,efp,hz,hru,hset⟩:=ctx p hR hsu
   rw [hva] at hz;cases hz
   have hfuO : ∀b∈fu,O b∧b<w.heap.size:=hru.fpO
   have hfur : ∀b∈fu,b∈fp r:=fun b hb=>by rw [efp];simp [hb]
   have hndr:=h.sim.nd r
   rw [efp] at hndr
   have nd1:=List.nodup_append.1 hndr
   have nd2:=List.nodup_append.1 nd1.2.1
   have hrest : ∀b,b∈f1++f2→b∈fp r∧b∉fu:=by
    intro b hb
    refine ⟨by rw [efp];simp at hb ⊢;rcases hb with h | h<;>simp [h],fun hbu=> ?_⟩
    rcases List.mem_append.1 hb with h | h
    ·exact nd1.2.2 b h b (by simp [hbu]) rfl
    ·exact nd2.2.2 b hbu b h rfl
   have key : ∀(Oc:Nat→Prop),(∀b,¬O b→b<w.heap.size→¬Oc b)→(∀q∈rs,∀b∈fp q,¬Oc b)→(∀b∈fu,Oc b) →
     (∀(res:V) (outs:List V) (out:V) (w':World) (O':Nat→Prop) (rv:Value) (fpr fpo:List Nat),outs[j]? = some out→Ea rs res=true→Ea rs out=true →
      Mv w Oc (· ∈ fu) w' O' (· ∈ fpr++fpo)→RdL w' O' [res] [rv] fpr→RdL w' O' [out] [x] fpo →
      ∃O2:Nat→Prop,(∀b,b<w.heap.size→b∉fu→(O2 b↔O b))∧RdL w' O2 [res] [rv] fpr∧RdL w' O2 [out] [x] fpo) →
     o.upon P a next Q ((execOp a.eval o).run P w):=by
    intro Oc c1 c2 c3 c4
    obtain ⟨q1,q2⟩:=hrd Oc c1 c2
    have hru':RdL w Oc [u] [x] fu:=hru.frame (fun b hb=>⟨rfl,c3 b hb⟩) (fun b hb hlt=>⟨rfl,c1 b hb hlt⟩)
    have hargsR:RdL w Oc Vs us fu:=by
     rw [eV,eu]
     have:=q1.append (hru'.cons_join q2)
     simpa using this
    obtain ⟨hfn,hcall⟩:=htri Oc fu c1 hargsR nd2.1
    rw [hrun hfn]
    refine hcall.mono ?_
    rintro e w' ⟨res,outs,rv,O',fpr,fpo,hRR,rfl,r1,ro,hnd,hm⟩
    simp only [Ff,hT] at hRR
    obtain ⟨hokr,hRR⟩:=hRR
    split at hRR
    case h_2=>exact hRR.elim
    rename_i out T2 hout hT2
    cases hT2
    obtain ⟨hoko,hRR⟩:=hRR
    split at hRR
    case h_2=>exact hRR.elim
    rename_i T' hT'
    obtain ⟨lo,ro',vlo,xo,vro,flo,fuo,fro,e1,e2,e3,hlo,hvlo,_,rout,_⟩:=ro.at hout
    have hxo:xo=x:=by
     have h1:us[j]? = some xo:=by rw [e2];subst hvlo;simp
     have hjv:vl.length=j:=by omega
     have h2:us[j]? = some x:=by rw [eu];subst hjv;simp
     rw [h1] at h2;cases h2;rfl
    subst hxo
    have hfuo : ∀b∈fuo,b∈fpo:=fun b hb=>by rw [e3];simp [hb]
    have hm':Mv w Oc (· ∈ fu) w' O' (· ∈ fpr++fuo):=hm.shrink fun b hb=>by
     rcases List.mem_append.1 hb with h | h
     ·simp [h]
     ·simp [hfuo b h]
    obtain ⟨O2,hO2,r2,ro2⟩:=c4 res outs out w' O' rv fpr fuo hout hokr hoko hm' r1 rout
    have hsame : ∀b,b<w.heap.size→b∉fu→w'.heap[b]? = w.heap[b]? := fun b hb hbu=>(hm.same b hb hbu).1
    have hst:Iq w O w' O2:=fun b hb hlt=>by
     have hbu:b∉fu:=fun hh=>hb (hfuO b hh).1
     exact ⟨hsame b hlt hbu,fun hh=>hb ((hO2 b hlt hbu).1 hh)⟩
    have hnew : ∀b,b∈fpr∨b∈fuo→b∈fu∨w.heap.size≤b:=fun b hb=>hm'.new b (by simpa using hb)
    have hndro:=List.nodup_append.1 hnd
    have hndo:fuo.Nodup:=by
     have:=hndro.2.1;rw [e3] at this
     exact (List.nodup_append.1 (List.nodup_append.1 this).2.1).1
    have hdisj : ∀b∈fpr,b∉fuo:=fun b hb hb'=>hndro.2.2 b hb b (hfuo b hb') rfl
    have hrest2 : ∀b∈f1++f2,w'.heap[b]? = w.heap[b]? ∧ O2 b:=by
     intro b hb
     obtain ⟨hbr,hbu⟩:=hrest b hb
     obtain ⟨hO,hlt⟩:=h.sim.fpO r b hbr
     exact ⟨hsame b hlt hbu,(hO2 b hlt hbu).2 hO⟩
    have hRT:=hset w' O2 T' out _ hT' hrest2 hst ro2
    have hnotold : ∀b,b∈fpr∨b∈fuo → ∀s,b∈fp s→b∈fu:=by
     intro b hb s hs
     rcases hnew b hb with h1 | h1
     ·exact h1
     ·have:=(h.sim.fpO s b hs).2;omega
    have hsim:=h.sim.turn (w':=w') (O':=O2) r (p.length+Mb out) T T' (f1++(fuo++f2)) hT hst (fun s hs b hb=>by
      obtain ⟨hO,hlt⟩:=h.sim.fpO s b hb
      have hbu:b∉fu:=fun hh=>hs (h.sim.dj s r b hb (hfur b hh))
      exact ⟨hsame b hlt hbu,(hO2 b hlt hbu).2 hO⟩) hRT
     (by
      refine List.nodup_append.2 ⟨nd1.1,List.nodup_append.2 ⟨hndo,nd2.2.1,?_⟩,?_⟩
      ·rintro b hb c hc rfl
       exact (hrest b (by simp [hc])).2 (hnotold b (.inr hb) r (hrest b (by simp [hc])).1)
      ·rintro b hb c hc rfl
       rcases List.mem_append.1 hc with h1 | h1
       ·exact (hrest b (by simp [hb])).2 (hnotold b (.inr h1) r (hrest b (by simp [hb])).1)
       ·exact nd1.2.2 b hb b (by simp [h1]) rfl)
     (by
      intro b hb s hs hbs
      have:b∈fp r:=by
       simp only [List.mem_append] at hb
       rcases hb with h1 | h1 | h1
       ·exact (hrest b (by simp [h1])).1
       ·exact hfur b (hnotold b (.inr h1) s hbs)
       ·exact (hrest b (by simp [h1])).1
      exact hs (h.sim.dj s r b hbs this))
     (by
      intro q u2 v2 hlt hq hvq
      have hdp:Mb out≤1:=by unfold Mb;split<;>omega
      obtain ⟨u3,k1,k2⟩:=Adp p q hq hsu hT' (by omega) (fun heq _=>by
       cases hon:out.node with
       | true=>rfl
       | false=>simp only [Mb,hon] at hlt;omega)
      refine ⟨u3,k1,k2,?_⟩
      rw [So p q hR (h.sim.nd r) hsu hq (by omega) hva hru (fun b hb hbu=>hsame b (h.sim.fpO r b hb).2 hbu)]
      exact hvq)
    rw [←J9 hT] at hsim
    have o1:Ok (Hq r T' (p.length+Mb out) σ) a w' O2 gv N vals (upF fp r (f1++(fuo++f2))):=⟨hsim,h.lo,h.hi,h.sz,h.df⟩
    have hS1 : ∀b,Sof (upF fp r (f1++(fuo++f2))) b→Sof fp b∨b∈fuo:=by
     rintro b ⟨s,hs⟩
     simp only [upF] at hs
     split at hs
     ·simp only [List.mem_append] at hs
      rcases hs with h1 | h1 | h1
      ·exact .inl ⟨r,(hrest b (by simp [h1])).1⟩
      ·exact .inr h1
      ·exact .inl ⟨r,(hrest b (by simp [h1])).1⟩
     ·exact .inl ⟨s,hs⟩
    obtain ⟨fp',o2,s2⟩:=o1.put_own hN r2 hndro.1 (by
     rintro b hb ⟨s,hs⟩
     simp only [upF] at hs
     split at hs
     ·simp only [List.mem_append] at hs
      rcases hs with h1 | h1 | h1
      ·exact (hrest b (by simp [h1])).2 (hnotold b (.inl hb) r (hrest b (by simp [h1])).1)
      ·exact hdisj b hb h1
      ·exact (hrest b (by simp [h1])).2 (hnotold b (.inl hb) r (hrest b (by simp [h1])).1)
     ·rename_i hne
      exact hne (h.sim.dj s r b hs (hfur b (hnotold b (.inl hb) s hs))))
    refine hn _ _ _ _ _ _ hRR (by rw [hd];exact o2) ⟨hm.os,hm.tape,hm.output,hm.size,fun b hb hS=> ?_,fun b hb=> ?_⟩
    ·have hbu:b∉fu:=fun hh=>hS ⟨r,hfur b hh⟩
     exact ⟨hsame b hb hbu,hO2 b hb hbu⟩
    ·rcases s2 b hb with h1 | h1
     ·rcases hS1 b h1 with h2 | h2
      ·exact .inl h2
      ·rcases hnew b (.inr h2) with h3 | h3
       ·exact .inl ⟨r,hfur b h3⟩
       ·exact .inr h3
     ·rcases hnew b (.inl h1) with h3 | h3
      ·exact .inl ⟨r,hfur b h3⟩
      ·exact .inr h3
   by_cases hrs:rs=[]
   ·subst hrs
    refine key O (fun b hb _=>hb) (by simp) (fun b hb=>(hfuO b hb).1) ?_
    intro res outs out w' O' rv fpr fpo _ _ _ hm r1 ro
    exact ⟨O',fun b hb hbu=>(hm.same b hb hbu).2,r1,ro⟩
   ·refine key (· ∈ fu) (fun b hb _ hbu=>hb (hfuO b hbu).1) ?_ (fun b hb=>hb) ?_
    ·intro q hq b hb hbu
     have:=h.sim.dj q r b hb (hfur b hbu)
     subst this;exact hroot hq
    ·intro res outs out w' O' rv fpr fpo _ hokr hoko hm r1 ro
     have n1:res.noFz=true:=by simpa [Ea,hrs] using hokr
     have n2:out.noFz=true:=by simpa [Ea,hrs] using hoko
     refine ⟨fun b=>if b<w.heap.size∧b∉fu then O b else (b∈fpr∨b∈fpo),fun b hb hbu=>by simp [hb,hbu],?_,?_⟩
     ·refine r1.retag (by simp [Ce,n1]) fun b hb=> ?_
      rw [if_neg]
      ·exact .inl hb
      ·rintro ⟨h1,h2⟩
       rcases hm.new b (by simp [hb]) with h3 | h3
       ·exact h2 h3
       ·omega
     ·refine ro.retag (by simp [Ce,n2]) fun b hb=> ?_
      rw [if_neg]
      ·exact .inr hb
      ·rintro ⟨h1,h2⟩
       rcases hm.new b (by simp [hb]) with h3 | h3
       ·exact h2 h3
       ·omega
 | [(j1,r1,p1),(j2,r2,p2)],hroots,htri,hargs=>
   simp only [Jy,Bool.and_eq_true,Bool.not_eq_true'] at hroots
   obtain ⟨⟨hroot1,hroot2⟩,hap⟩:=hroots
   have hroot1:r1∉rs:=by simpa using hroot1
   have hroot2:r2∉rs:=by simpa using hroot2
   obtain ⟨T1,u1,x1,T2,u2,x2,_,hjj,hT1,hs1,hv1,hT2,hs2,hv2,hx1,hx2,hrd⟩:=Aq4 h hr hargs
   obtain ⟨fu1,fu2,hru1,hru2,hndu,mf1,mf2,hback⟩:=Az2 h hT1 hT2 hs1 hs2 hap hv1 hv2
   have hsof : ∀b∈fu1++fu2,Sof fp b:=fun b hb=>by
    rcases List.mem_append.1 hb with h1 | h1
    ·exact ⟨r1,mf1 b h1⟩
    ·exact ⟨r2,mf2 b h1⟩
   have hfuO : ∀b∈fu1++fu2,O b∧b<w.heap.size:=fun b hb=>by
    obtain ⟨s,hs⟩:=hsof b hb
    exact h.sim.fpO s b hs
   have key : ∀(Oc:Nat→Prop),(∀b,¬O b→b<w.heap.size→¬Oc b)→(∀q∈rs,∀b∈fp q,¬Oc b)→(∀b∈fu1++fu2,Oc b) →
     (∀(res:V) (o1 o2:V) (w':World) (O':Nat→Prop) (rv:Value) (fpr fo1 fo2:List Nat),Ea rs res=true→Ea rs o1=true→Ea rs o2=true →
      Mv w Oc (· ∈ fu1++fu2) w' O' (· ∈ fpr++(fo1++fo2))→RdL w' O' [res] [rv] fpr→RdL w' O' [o1] [x1] fo1→RdL w' O' [o2] [x2] fo2 →
      ∃O2:Nat→Prop,(∀b,b<w.heap.size→b∉fu1++fu2→(O2 b↔O b))∧RdL w' O2 [res] [rv] fpr∧RdL w' O2 [o1] [x1] fo1∧RdL w' O2 [o2] [x2] fo2) →
     o.upon P a next Q ((execOp a.eval o).run P w):=by
    intro Oc c1 c2 c3 c4
    have g1:RdL w Oc [u1] [x1] fu1:=hru1.frame (fun b hb=>⟨rfl,c3 b (by simp [hb])⟩) (fun b hb hlt=>⟨rfl,c1 b hb hlt⟩)
    have g2:RdL w Oc [u2] [x2] fu2:=hru2.frame (fun b hb=>⟨rfl,c3 b (by simp [hb])⟩) (fun b hb hlt=>⟨rfl,c1 b hb hlt⟩)
    have hargsR:RdL w Oc Vs us (fu1++fu2):=hrd Oc fu1 fu2 c1 c2 g1 g2
    obtain ⟨hfn,hcall⟩:=htri Oc (fu1++fu2) c1 hargsR hndu
    rw [hrun hfn]
    refine hcall.mono ?_
    rintro e w' ⟨res,outs,rv,O',fpr,fpo,hRR,rfl,r0,ro,hnd,hm⟩
    simp only [Ff] at hRR
    obtain ⟨hokr,hRR⟩:=hRR
    split at hRR
    case h_2=>exact hRR.elim
    rename_i o1 o2 hout1 hout2
    obtain ⟨hok,hRR⟩:=hRR
    simp only [Bool.and_eq_true] at hok
    obtain ⟨hok1,hok2⟩:=hok
    split at hRR
    case h_2=>exact hRR.elim
    rename_i σ' hσ'
    obtain ⟨lo,ro',vlo,y1,vro,flo,fo1,fro,e1,e2,e3,hlo,hvlo,_,ro1,rr⟩:=ro.at hout1
    have hout2':ro'[j2-j1-1]? = some o2:=by
     rw [e1,List.getElem?_append_right (by omega),hlo] at hout2
     rw [show j2-j1=(j2-j1-1)+1 by omega,List.getElem?_cons_succ] at hout2
     exact hout2
    obtain ⟨lo2,ro2',vlo2,y2,vro2,flo2,fo2,fro2,f1,f2,f3,hlo2,hvlo2,_,ro2,_⟩:=rr.at hout2'
    simp only [Nat.sub_zero] at hx1 hx2
    have hy1:us[j1]? = some y1:=by rw [e2,List.getElem?_append_right (by omega),hvlo];simp
    have hy2:us[j2]? = some y2:=by
     rw [e2,List.getElem?_append_right (by omega),hvlo,show j2-j1=(j2-j1-1)+1 by omega,List.getElem?_cons_succ,f2,List.getElem?_append_right (by omega),hvlo2];simp
    rw [hx1] at hy1;cases hy1
    rw [hx2] at hy2;cases hy2
    have hndro:=List.nodup_append.1 hnd
    have hndo:(fo1++fo2).Nodup:=by
     have h1:=hndro.2.1
     rw [e3] at h1
     have h2:=(List.nodup_append.1 h1).2.1
     rw [f3] at h2
     have h3:=List.nodup_append.1 h2
     have h4:=(List.nodup_append.1 h3.2.1).2.1
     exact List.nodup_append.2 ⟨h3.1,(List.nodup_append.1 h4).1,fun b hb c hc=>h3.2.2 b hb c (by simp [hc])⟩
    have hfuo : ∀b∈fo1++fo2,b∈fpo:=fun b hb=>by
     rw [e3,f3]
     rcases List.mem_append.1 hb with h | h<;>simp [h]
    have hm':Mv w Oc (· ∈ fu1++fu2) w' O' (· ∈ fpr++(fo1++fo2)):=hm.shrink fun b hb=>by
     rcases List.mem_append.1 hb with h | h
     ·simp [h]
     ·exact List.mem_append_right _ (hfuo b h)
    obtain ⟨O2,hO2,r2',ro1',ro2'⟩:=c4 res o1 o2 w' O' rv fpr fo1 fo2 hokr hok1 hok2 hm' r0 ro1 ro2
    have hsame : ∀b,b<w.heap.size→b∉fu1++fu2→w'.heap[b]? = w.heap[b]? := fun b hb hbu=>(hm.same b hb hbu).1
    have hst:Iq w O w' O2:=fun b hb hlt=>by
     have hbu:b∉fu1++fu2:=fun hh=>hb (hfuO b hh).1
     exact ⟨hsame b hlt hbu,fun hh=>hb ((hO2 b hlt hbu).1 hh)⟩
    have hnew : ∀b,b∈fpr∨b∈fo1++fo2→b∈fu1++fu2∨w.heap.size≤b:=fun b hb=>hm'.new b (by simpa using hb)
    have hnotold : ∀b,b∈fpr∨b∈fo1++fo2→Sof fp b→b∈fu1++fu2:=by
     rintro b hb ⟨s,hs⟩
     rcases hnew b hb with h1 | h1
     ·exact h1
     ·have:=(h.sim.fpO s b hs).2;omega
    obtain ⟨fp1,o1',hfp1⟩:=hback w' O2 o1 o2 fo1 fo2 σ' hst (fun b hb hbu=>by
      obtain ⟨s,hs⟩:=hb
      obtain ⟨hO,hlt⟩:=h.sim.fpO s b hs
      exact ⟨hsame b hlt hbu,(hO2 b hlt hbu).2 hO⟩) ro1' ro2' hndo (fun b hb hs=>hnotold b (.inr hb) hs) hσ'
    obtain ⟨fp',o2',s2⟩:=o1'.put_own hN r2' hndro.1 (by
     intro b hb hs
     rcases hfp1 b hs with ⟨k1,k2⟩ | k1
     ·exact k2 (hnotold b (.inl hb) k1)
     ·exact hndro.2.2 b hb b (hfuo b k1) rfl)
    refine hn _ _ _ _ _ _ hRR (by rw [hd];exact o2') ⟨hm.os,hm.tape,hm.output,hm.size,fun b hb hS=> ?_,fun b hb=> ?_⟩
    ·have hbu:b∉fu1++fu2:=fun hh=>hS (hsof b hh)
     exact ⟨hsame b hb hbu,hO2 b hb hbu⟩
    ·rcases s2 b hb with h1 | h1
     ·rcases hfp1 b h1 with ⟨k1,_⟩ | k1
      ·exact .inl k1
      ·rcases hnew b (.inr k1) with h3 | h3
       ·exact .inl (hsof b h3)
       ·exact .inr h3
     ·rcases hnew b (.inl h1) with h3 | h3
      ·exact .inl (hsof b h3)
      ·exact .inr h3
   by_cases hrs:rs=[]
   ·subst hrs
    refine key O (fun b hb _=>hb) (by simp) (fun b hb=>(hfuO b hb).1) ?_
    intro res o1 o2 w' O' rv fpr fo1 fo2 _ _ _ hm r1 ro1 ro2
    exact ⟨O',fun b hb hbu=>(hm.same b hb hbu).2,r1,ro1,ro2⟩
   ·refine key (· ∈ fu1++fu2) (fun b hb _ hbu=>hb (hfuO b hbu).1) ?_ (fun b hb=>hb) ?_
    ·intro q hq b hb hbu
     rcases List.mem_append.1 hbu with h1 | h1
     ·have:=h.sim.dj q r1 b hb (mf1 b h1)
      subst this;exact hroot1 hq
     ·have:=h.sim.dj q r2 b hb (mf2 b h1)
      subst this;exact hroot2 hq
    ·intro res o1 o2 w' O' rv fpr fo1 fo2 hokr hok1 hok2 hm r1 ro1 ro2
     have n0:res.noFz=true:=by simpa [Ea,hrs] using hokr
     have n1:o1.noFz=true:=by simpa [Ea,hrs] using hok1
     have n2:o2.noFz=true:=by simpa [Ea,hrs] using hok2
     have hout : ∀b,b∈fpr++(fo1++fo2)→¬(b<w.heap.size∧b∉fu1++fu2):=by
      rintro b hb ⟨h1,h2⟩
      rcases hm.new b hb with h3 | h3
      ·exact h2 h3
      ·omega
     refine ⟨fun b=>if b<w.heap.size∧b∉fu1++fu2 then O b else b∈fpr++(fo1++fo2),fun b hb hbu=>by simp only [hb,hbu,not_false_eq_true,and_self,if_true],?_,?_,?_⟩
     ·refine r1.retag (by simp [Ce,n0]) fun b hb=> ?_
      have hb':b∈fpr++(fo1++fo2):=by simp [hb]
      rw [if_neg (hout b hb')];exact hb'
     ·refine ro1.retag (by simp [Ce,n1]) fun b hb=> ?_
      have hb':b∈fpr++(fo1++fo2):=by simp [hb]
      rw [if_neg (hout b hb')];exact hb'
     ·refine ro2.retag (by simp [Ce,n2]) fun b hb=> ?_
      have hb':b∈fpr++(fo1++fo2):=by simp [hb]
      rw [if_neg (hout b hb')];exact hb'
 | _::_::_::_,hroots,_,_=>simp [Jy] at hroots
theorem Aoy {σ:St} : ∀ {as:List (A×Bool)} {k:Nat} {vs ls rs},Ee σ as k=some (vs,ls,rs)→vs.length=as.length:=by
 intro as
 induction as with
 | nil=>intro k vs ls rs h;simp [Ee] at h;simp [h.1]
 | cons e r ih=>
   intro k vs ls rs h
   obtain ⟨a,io⟩:=e
   simp only [Ee] at h
   split at h
   ·cases h
   ·rename_i h1
    split at h
    ·cases h;simp [ih h1]
    ·split at h
     ·cases h;simp [ih h1]
     ·cases h
theorem Ajp {P:Program} {o:Oper} {σ a w O gv N vals fp} {f d:Nat} {as:List (A×Bool)} {us:List Value} {K:St→Prop} {next Q} (h:Ok σ a w O gv N vals fp) (hd:o.dst=some d) (hN:d<N)
  (hr:RelL w O (look σ) vals (as.map (·.1)) us) (ha:Ig P f d as K σ) (hn:Jq w O gv N fp K next)
  (hrun:(∃fn c,P.funcs[f]? = some fn∧(fn.name == "runtime.NumGoroutine")=false∧fn.body=some c)→(execOp a.eval o).run P w = .ok (.enter f us.toArray) w):o.wp P a w next Q:=by
 unfold Ig at ha
 split at ha
 ·-- parts of a group are lent
  rename_i pre g bs rest hg
  have eas:=Aqe hg
  subst eas
  split at ha
  case h_2=>exact ha.elim
  rename_i Vs ls rs hargs
  obtain ⟨hroots,htri⟩:=ha
  rw [List.map_append] at hr
  obtain ⟨us0,us1,eus,hr0,hr'⟩:=RelL.split hr
  subst eus
  match us1,hr'.length with
  | u0::us,_=>
  have hr':RelL w O (look σ) vals (A45 g bs::rest.map (·.1)) (u0::us):=hr'
  obtain ⟨hr1,hr2⟩:=hr'.uncons
  obtain ⟨bvs,rfl,s⟩ : ∃bvs,u0=Afy g bvs∧RelL w O (look σ) vals bs bvs:=by
   cases g with
   | none=>cases hr1 with | agg s t=>exact ⟨_,rfl,s⟩
   | some f=>cases hr1 with | clo s t=>exact ⟨_,rfl,s⟩
  have hl:=Aoy hargs
  have hl0:=hr0.length
  have hrr:RelL w O (look σ) vals ((pre++(bs.map (·,true)++rest)).map (·.1)) (us0++(bvs++us)):=by
   rw [List.map_append,List.map_append,List.map_map]
   have e:bs.map ((·.1)∘fun x:A=>(x,true))=bs:=by
    rw [show ((·.1)∘fun x:A=>(x,true))=(id:A→A) from rfl,List.map_id]
   rw [e]
   exact hr0.append (s.append hr2)
  have hp:us0.length=pre.length:=by simpa using hl0
  have hb:bvs.length=bs.length:=s.length
  rw [←hp,←hb] at htri
  exact Anf h hd hN hrr hargs hroots (Tri.toAgg (by rw [hl];simp;omega) htri).toW hn hrun
 split at ha
 case h_2=>exact ha.elim
 rename_i Vs ls rs hargs
 obtain ⟨hroots,htri⟩:=ha
 exact Anf h hd hN hr hargs hroots htri.toL.toW hn hrun
end Go.Proofs.Ytmmcfdfdacpjgaa.Ax
