/-
 Part of the proof; see the last text of the claim.
-/
import Derived.Test.YtaalgpkajkogkaaAx1
import Derived.IntWalk
import Derived.Great.BuildSlice
import Derived.Laws.Tables
import Derived.MapKept
import Derived.Laws.BytesString
import Derived.Laws.Slices
import Derived.Laws.Strings2
import Derived.Tactics
import Derived.Conc.MuLone
namespace Go.Proofs.Ytaalgpkajkogkaa.Ax
open Go
theorem Ans {w O x v fp} (h:RdL w O [x] [v] fp) (hc:x.isCell=true):v.oneCell'=true/\v.cells = #[v]:=by
 cases h with
 | leaf hl _=>cases hl<;>first | exact ⟨rfl,rfl⟩ | (simp [V.isCell] at hc;done) | (simp only [V.isCell] at hc;split at hc<;>first | exact ⟨rfl,rfl⟩ | cases hc)
 | grp hg _ _=>cases hg<;>first | exact ⟨rfl,rfl⟩ | (simp [V.isCell] at hc;done) | (subst_vars;exact ⟨rfl,rfl⟩)
 | fblk hh _ _ _ _=>cases hh<;>exact ⟨rfl,rfl⟩
 | oblk hh _ _ _ _ _=>cases hh<;>exact ⟨rfl,rfl⟩
 | mpf _ _ _ _=>exact ⟨rfl,rfl⟩
 | mpo _ _ _ _=>exact ⟨rfl,rfl⟩
theorem Af8 {w O} : ∀ {xs vs fp},RdL w O xs vs fp->Em xs=true -> ∀v∈vs,v.oneCell'=true:=by
 intro xs
 induction xs with
 | nil=>intro vs fp h _ v hv;cases h;simp at hv
 | cons x r ih=>
   intro vs fp h hc v hv;simp [Em] at hc;obtain ⟨u,us,f1,f2,rfl,rfl,h1,h2⟩:=h.cons_split;rcases List.mem_cons.1 hv with rfl | hv
   ·exact (Ans h1 hc.1).1
   ·exact ih h2 (by simpa [Em] using hc.2) v hv
theorem Acz {w O x v fp} (h:RdL w O [x] [v] fp) (hc:Em x.cells=true) : ∃us,v.cells=us.toArray/\RdL w O x.cells us fp:=by
 cases hx:x.isAgg with
 | true=>
   cases x<;>simp [V.isAgg] at hx
   obtain ⟨vs,rfl,hr⟩:=Aul h;exact ⟨vs,rfl,hr⟩
 | false=>
   have e:x.cells=[x]:=by cases x<;>simp [V.isAgg] at hx<;>rfl
   rw [e] at hc ⊢;simp [Em] at hc;exact ⟨[v],(Ans h hc).2,h⟩
theorem A2r {P:Program} {o:Oper} {σ σ' a w O gv N vals fp} {t n x x' v v'} {fi:TypeInfo} (h:Ok σ a w O gv N vals fp) (ho:o.op = .store t x' v') (hd:o.dst=none)
  (hx:Be N x x'=true) (hv:Be N v v'=true) (hi:P.info? t=some fi) (hsz:fi.size=n) (hs:Ath σ n x v=some σ'):B4 P o σ' a w O gv N fp:=by
 simp only [Ath] at hs;split at hs
 case h_2=>cases hs
 rename_i U σ1 hU;split at hs
 case h_2=>cases hs
 rename_i r p c hl;split at hs
 case h_2=>cases hs
 rename_i T hT;split at hs
 case h_2=>cases hs
 rename_i nd hnd;split at hs
 case isFalse=>cases hs
 rename_i hcond;simp only [Bool.and_eq_true,decide_eq_true_eq] at hcond;obtain ⟨⟨hnode,hlen⟩,hcell⟩:=hcond;split at hs
 case h_2=>cases hs
 rename_i nd' hnd';split at hs
 case h_2=>cases hs
 rename_i T' hT';cases hs;obtain ⟨fp1,fpV,o1,rV,nV,dV,s1⟩:=Sk h (A9 h hv) hU;obtain ⟨us,hcells,rus⟩:=Acz rV hcell;have hlus:us.length=n:=by rw [rus.length,hlen]
 have hrel:=Q8 o1 (A9 o1 hx) hl;obtain ⟨T2,nd2,hdr,b,hT2,hnd2,_,hval,hblk,haddr⟩:=hrel;rw [hT] at hT2;cases hT2;rw [hnd] at hnd2;cases hnd2;have hR:=o1.sim.own r T hT;obtain ⟨x0,f1,fu,f2,efp,hx0,hru,hset⟩:=ctx p hR hnd;rw [hval] at hx0;cases hx0;have hstep:nd.stepOk=true:=by cases nd<;>simp [V.node] at hnode<;>first | simpa [V.stepOk] using hnode | simp [V.setKids] at hnd'
 obtain ⟨b',k,arr,e,fpk,hh,hb,hO,hk,hkids,efu⟩:=(Ahb hru hnode hstep).resolve_left (by rintro ⟨m,_,c,_⟩;rw [c] at hblk;cases hblk);have hbb:b'=b:=by have:=hh.block;rw [hblk] at this;cases this;rfl
 subst hbb;obtain ⟨ch',hh',hch',hlch',hcn⟩:=hh.set hnd';have hkl:nd.kids.length<=arr.size:=by have:=hkids.length;simp at this;omega
 have hnodup:=o1.sim.nd r;rw [efp] at hnodup;have nd1:=List.nodup_append.1 hnodup;have nd2':=List.nodup_append.1 nd1.2.1;have ndu:(b'::fpk).Nodup:=by rw [<-efu];exact nd2'.1
 have hbk:b'∉fpk:=(List.nodup_cons.1 ndu).1;have hbr:b'∈fp1 r:=by rw [efp,efu];simp
 have hbV:b'∉fpV:=λhb'=>(dV b' hb').2 ⟨r,hbr⟩
 let arr':Array Value:=(arr.toList.take c++us++arr.toList.drop (c+us.length)).toArray
 have hw':w.setRow b' arr'=w.setRow b' arr':=rfl;have hfit:c+0+us.length<=arr.size:=by rw [hlen] at hcn;omega
 have hst:=run_storeCells_at P b' c e us 0 arr w hb hfit (Af8 rus hcell);simp only [Nat.add_zero] at hst;have hheap:(w.setRow b' arr').heap[b']? = some (.cells arr' e (0,0)):=setRow_heap w b' arr arr' e (0,0) hb;have hother : ∀q,q≠b'->(w.setRow b' arr').heap[q]? = w.heap[q]? := λq hq=>setRow_other w b' q arr' hq
 have hstill:Li w O (w.setRow b' arr') O:=λq hq _=>⟨hother q (λe=>hq (e▸hO)),hq⟩
 have hsz':arr'.size=arr.size:=by simp [arr'];omega
 obtain ⟨m,hm⟩ : ∃m,nd.kids=nd.kids.take c++(m++nd.kids.drop (c+n))/\m.length=n:=by refine ⟨(nd.kids.drop c).take n,?_,by simp;omega⟩;rw [<-List.drop_drop,List.take_append_drop,List.take_append_drop]
 have hkids':=hkids;rw [hm.1] at hkids';obtain ⟨vl,v2,fl,f2',ev1,ef1,rl,rest⟩:=RdL.split _ hkids';obtain ⟨vm,vr,fm,fr,ev2,ef2,rm,rr⟩:=RdL.split _ rest;subst ev2;subst ef2;have hvl:vl.length=c:=by rw [rl.length];simp;omega
 have hvm:vm.length=n:=by rw [rm.length,hm.2]
 have eqarr:arr.toList.take nd.kids.length=vl++(vm++vr):=by rw [<-hm.1] at ev1;exact ev1
 have earr':arr'.toList.take ch'.length=vl++(us++vr):=by
  have hdrop:arr.toList=vl++(vm++vr)++arr.toList.drop nd.kids.length:=by rw [<-eqarr,List.take_append_drop]
  have htk:arr.toList.take c=vl:=by rw [hdrop,List.append_assoc,List.take_left' hvl]
  have hdr2:arr.toList.drop (c+us.length)=vr++arr.toList.drop nd.kids.length:=by
   rw [hlus];conv=>lhs;rw [hdrop]
   rw [List.append_assoc,List.append_assoc,<-List.append_assoc vl vm];rw [List.drop_left' (by simp [hvl,hvm])]
  have hl1:(vl++(us++vr)).length=ch'.length:=by rw [hlch'];have:=congrArg List.length eqarr;simp at this ⊢;omega
  simp only [arr',htk,hdr2];rw [show vl++us++(vr++arr.toList.drop nd.kids.length)=(vl++(us++vr))++arr.toList.drop nd.kids.length by simp];rw [<-hl1,List.take_left]
 have frm : ∀ {xs vs f},RdL w O xs vs f->b'∉f->RdL (w.setRow b' arr') O xs vs f:=λhr hnb=> hr.frame (λq hq=>⟨hother q (λe=>hnb (e▸hq)),(hr.fpO q hq).1⟩) hstill
 have sub1 : ∀q,q∈fl\/q∈fm\/q∈fr->q∈fpk:=by intro q hq;rw [ef1];simp;rcases hq with h | h | h<;>simp [h]
 have rl':=frm rl λhq=>hbk (sub1 _ (.inl hq))
 have rr':=frm rr λhq=>hbk (sub1 _ (.inr (.inr hq)))
 have ru':=frm rus hbV;have hch:ch'=nd.kids.take c++(U.cells++nd.kids.drop (c+n)):=by rw [hch',splice,hlen]
 have hnode':RdL (w.setRow b' arr') O [nd'] [hdr] (b'::((fl++(fpV++fr))++[])):=by refine RdL.oblk hh' hheap hO (by omega) ?_ .nil;rw [earr',hch];exact rl'.append (ru'.append rr')
 simp only [List.append_nil] at hnode';have hrest : ∀q∈f1++f2,(w.setRow b' arr').heap[q]? = w.heap[q]? /\ O q:=by
  intro q hq;have hqr:q∈fp1 r:=by rw [efp];simp at hq ⊢;rcases hq with h | h<;>simp [h]
  refine ⟨hother q ?_,(o1.sim.fpO r q hqr).1⟩;rintro rfl;rcases List.mem_append.1 hq with h | h
  ·exact nd1.2.2 q h q (by simp [efu]) rfl
  ·exact nd2'.2.2 q (by simp [efu]) q h rfl
 have hRT:=hset (w.setRow b' arr') O T' nd' _ hT' hrest hstill hnode';have hbu:b'∈fu:=by rw [efu];simp
 have hknode:=(Px hnd').2.1;have hsim:=o1.sim.turn r (p.length+1) T T' _ hT hstill (λs hs q hq=>⟨hother q (by rintro rfl;exact hs (o1.sim.dj s r q hq hbr)),(o1.sim.fpO s q hq).1⟩) hRT
  (by
   have hV : ∀q∈fpV,q∉fp1 r:=λq hq hq'=>(dV q hq).2 ⟨r,hq'⟩
   have n1 : ∀q,q∈f1->q∈fp1 r:=λq hq=>by rw [efp];simp [hq]
   have n2 : ∀q,q∈f2->q∈fp1 r:=λq hq=>by rw [efp];simp [hq]
   have n3 : ∀q,q∈fpk->q∈fp1 r:=λq hq=>by rw [efp,efu];simp [hq]
   have ndk:fpk.Nodup:=(List.nodup_cons.1 ndu).2;rw [ef1] at ndk;have k1:=List.nodup_append.1 ndk;have k2:=List.nodup_append.1 k1.2.1;have inner:(b'::(fl++(fpV++fr))).Nodup:=by
    refine List.nodup_cons.2 ⟨?_,?_⟩
    ·simp only [List.mem_append,not_or];exact ⟨λhq=>hbk (sub1 _ (.inl hq)),hbV,λhq=>hbk (sub1 _ (.inr (.inr hq)))⟩
    ·refine List.nodup_append.2 ⟨k1.1,List.nodup_append.2 ⟨nV,k2.2.1,?_⟩,?_⟩
     ·rintro q hq q' hq' rfl;exact hV q hq (n3 q (sub1 q (.inr (.inr hq'))))
     ·rintro q hq q' hq' rfl;rcases List.mem_append.1 hq' with h | h
      ·exact hV q h (n3 q (sub1 q (.inl hq)))
      ·exact k1.2.2 q hq q (by simp [h]) rfl
   have mem : ∀q,q∈b'::(fl++(fpV++fr))->q∈fu\/q∈fpV:=by
    intro q hq;simp only [List.mem_cons,List.mem_append] at hq;rcases hq with h | h | h | h
    ·exact .inl (by rw [h];exact hbu)
    ·exact .inl (by rw [efu];simp [sub1 q (.inl h)])
    ·exact .inr h
    ·exact .inl (by rw [efu];simp [sub1 q (.inr (.inr h))])
   refine List.nodup_append.2 ⟨nd1.1,List.nodup_append.2 ⟨inner,nd2'.2.1,?_⟩,?_⟩
   ·rintro q hq q' hq' rfl;rcases mem q hq with h | h
    ·exact nd2'.2.2 q h q hq' rfl
    ·exact hV q h (n2 q hq')
   ·rintro q hq q' hq' rfl;rcases List.mem_append.1 hq' with h | h
    ·rcases mem q h with h | h
     ·exact nd1.2.2 q hq q (by simp [h]) rfl
     ·exact hV q h (n1 q hq)
    ·exact nd1.2.2 q hq q (by simp [h]) rfl)
  (by
   intro q hq s hs hqs;simp only [List.mem_append,List.mem_cons] at hq;rcases hq with h | (h | h | h | h) | h
   ·exact hs (o1.sim.dj s r q hqs (by rw [efp];simp [h]))
   ·exact hs (o1.sim.dj s r q hqs (by rw [h];exact hbr))
   ·exact hs (o1.sim.dj s r q hqs (by rw [efp,efu];simp [sub1 q (.inl h)]))
   ·exact (dV q h).2 ⟨s,hqs⟩
   ·exact hs (o1.sim.dj s r q hqs (by rw [efp,efu];simp [sub1 q (.inr (.inr h))]))
   ·exact hs (o1.sim.dj s r q hqs (by rw [efp];simp [h])))
  (by intro q u v hlt hq hvq;obtain ⟨u2,h2,h3⟩:=Ajk p q hq hnd hT' (by omega) (λ_ _=>by rw [hknode];exact hnode);refine ⟨u2,h2,h3,?_⟩;rw [Um p q hR (o1.sim.nd r) hnd hq (by omega) hval hru (λz hz hzn=>hother z (by rintro rfl;exact hzn hbu))];exact hvq)
 rw [<-Lr hT] at hsim;refine ⟨undef,w.setRow b' arr',O,vals,upF fp1 r (f1++((b'::(fl++(fpV++fr)))++f2)),.inr ⟨?_,rfl⟩,?_,?_⟩
 ·have hcs:(a.eval v').cells.size=fi.size:=by rw [hcells];simp;omega
  simp [execOp,ho,haddr,Instr.storeAt,Instr.sureAddr,storeVar,Gj hi,hcells,hlus,hsz,hst];simp [arr',hlus]
 ·rw [hd];exact ⟨hsim,o1.lo,o1.hi,o1.sz,o1.df⟩
 refine ⟨rfl,rfl,rfl,by simp [World.setRow],?_,?_⟩
 ·intro q _ hq;exact ⟨hother q (by rintro rfl;exact hq (s1 _ ⟨r,hbr⟩)),.rfl⟩
 rintro q ⟨s,hs⟩;left;simp only [upF] at hs;split at hs
 ·simp only [List.mem_append,List.mem_cons] at hs;rcases hs with h | (h | h | h | h) | h
  ·exact s1 q ⟨r,by rw [efp];simp [h]⟩
  ·exact s1 q ⟨r,by rw [h];exact hbr⟩
  ·exact s1 q ⟨r,by rw [efp,efu];simp [sub1 q (.inl h)]⟩
  ·exact (dV q h).1
  ·exact s1 q ⟨r,by rw [efp,efu];simp [sub1 q (.inr (.inr h))]⟩
  exact s1 q ⟨r,by rw [efp];simp [h]⟩
 exact s1 q ⟨s,hs⟩
end Go.Proofs.Ytaalgpkajkogkaa.Ax
namespace Go.Proofs.Ytaalgpkajkogkaa.Ax
open Go
theorem Ay8 {P:Program} {o:Oper} {σ1 a w w' O gv N vals} {fp fp1:Nat->List Nat} {d:Nat} {U':V} {hv:Value} {k:Nat} {ch:List V} {arr:Array Value} {e:TypeId} {fpV:List Nat} {σ2:St}
  (h:Ok σ1 a w O gv N vals fp1) (hd:o.dst=some d) (hN:d<N) (hs : ∀b,Sof fp1 b->Sof fp b) (hV : ∀b∈fpV,Sof fp b/\¬Sof fp1 b) (hnd:fpV.Nodup)
  (hw:w'.heap=w.heap.push (.cells arr e)) (hos:w'.os=w.os) (htape:w'.tape=w.tape) (hout:w'.output=w.output)
  (hh:Hdr U' hv true w.heap.size 0 k ch) (hk:k<=arr.size) (hr:RdL w O ch (arr.toList.take ch.length) fpV)
  (hrun:(execOp a.eval o).run P w = .ok (.value hv) w')
  (hext : ∀a' vals' fp',Ok (A4 d (.val U') σ1) a' w' (λb=>O b\/b=w.heap.size) gv N vals' fp'->vals'=upF vals d hv->Ok σ2 a' w' (λb=>O b\/b=w.heap.size) gv N vals' fp'):B4 P o σ2 a w O gv N fp:=by
 let O':Nat->Prop:=λb=>O b\/b=w.heap.size
 have hold : ∀b,b<w.heap.size->w'.heap[b]? = w.heap[b]? := λb hb=>by rw [hw];exact Re w _ b hb
 have hstill:Li w O w' O':=λb hb hlt=>⟨hold b hlt,by simp [O'];exact ⟨hb,by omega⟩⟩
 have hlt1 : ∀b,Sof fp1 b->O b/\b<w.heap.size:=λb ⟨s,hs⟩=>h.sim.fpO s b hs
 have o1:Ok σ1 a w' O' gv N vals fp1:=h.world hstill λb hb=>⟨hold b (hlt1 b hb).2,.inl (hlt1 b hb).1⟩
 have hVlt : ∀b∈fpV,O b/\b<w.heap.size:=hr.fpO;have hr':RdL w' O' ch (arr.toList.take ch.length) fpV:=hr.frame (λb hb=>⟨hold b (hVlt b hb).2,.inl (hVlt b hb).1⟩) hstill;have hblk:w'.heap[w.heap.size]? = some (.cells arr e (0,0)):=by rw [hw];simp
 have hread:RdL w' O' [U'] [hv] (w.heap.size::(fpV++[])):= .oblk hh hblk (.inr rfl) hk hr' .nil;simp only [List.append_nil] at hread;obtain ⟨fp',o2,s2⟩:=o1.put_own hN hread (List.nodup_cons.2 ⟨λhb=>by have:=(hVlt _ hb).2;omega,hnd⟩) (by
  intro b hb hb1;rcases List.mem_cons.1 hb with rfl | hb
  ·have:=(hlt1 _ hb1).2;omega
  ·exact (hV b hb).2 hb1)
 refine ⟨hv,w',O',_,fp',.inl hrun,by rw [hd];exact hext _ _ _ o2 rfl,⟨hos,htape,hout,by rw [hw];simp,?_,?_⟩⟩
 ·intro b hb _;exact ⟨hold b hb,by simp [O'];omega⟩
 intro b hb;rcases s2 b hb with h | h
 ·exact .inl (hs b h)
 rcases List.mem_cons.1 h with rfl | h
 ·exact .inr (Nat.le_refl _)
 exact .inl (hV b h).1
theorem Afk {P:Program} {o:Oper} {σ1 a w w' O gv N vals} {fp fp1:Nat->List Nat} {d:Nat} {U':V} {hv:Value} {k:Nat} {ch:List V} {arr:Array Value} {e:TypeId} {fpV:List Nat}
  (h:Ok σ1 a w O gv N vals fp1) (hd:o.dst=some d) (hN:d<N) (hs : ∀b,Sof fp1 b->Sof fp b) (hV : ∀b∈fpV,Sof fp b/\¬Sof fp1 b) (hnd:fpV.Nodup)
  (hw:w'.heap=w.heap.push (.cells arr e)) (hos:w'.os=w.os) (htape:w'.tape=w.tape) (hout:w'.output=w.output)
  (hh:Hdr U' hv true w.heap.size 0 k ch) (hk:k<=arr.size) (hr:RdL w O ch (arr.toList.take ch.length) fpV)
  (hrun:(execOp a.eval o).run P w = .ok (.value hv) w'):B4 P o (A4 d (.val U') σ1) a w O gv N fp:=
 Ay8 h hd hN hs hV hnd hw hos htape hout hh hk hr hrun λ_ _ _ h _=>h
def Atf (d:Nat):A->V->St->St
 | .ref r [],.agg cs,σ=>if r=d then σ else (r,.agg (Wj d [] 0 cs))::erase r σ
 | _,_,σ=>σ
def A5h (d:Nat) (x:A) (σ:St):Option St:=match Kg σ x with
 | some (U,σ1)=>if Em U.cells then some (Atf d x U (A4 d (.val (.ptr true U)) σ1)) else none
 | none=>none
theorem A1z {σ σ1:St} {a a':Act} {w w':World} {O O':Nat->Prop} {gv N} {vals vals':Nat->Value} {fp fp':Nat->List Nat} {d:Nat} {y:A} {v hv:Value} {U:V} {us:List Value} {fpV:List Nat} (_h:Ok σ a w O gv N vals fp)
  (hr:RelL w O (look σ) vals [y] [v]) (hU:Kg σ y=some (U,σ1)) (rV:RdL w O [U] [v] fpV) (hcells:v.cells=us.toArray) (hl:us.length=U.cells.length)
  (hok:Ok (A4 d (.val (.ptr true U)) σ1) a' w' O' gv N vals' fp') (hvals:vals'=upF vals d hv) (hk : ∀j,Hk w' hv j=us[j]?):Ok (Atf d y U (A4 d (.val (.ptr true U)) σ1)) a' w' O' gv N vals' fp':=by
 unfold Atf;split
 case h_2=>exact hok
 rename_i r cs;split
 ·exact hok
 rename_i hrd;have hT:look σ r = .val (.agg cs)/\σ1=A4 r .top σ:=by
  simp only [Kg,Ia] at hU;split at hU
  ·rename_i T hL;cases hU;exact ⟨hL,rfl⟩
  ·cases hU
 obtain ⟨hT,rfl⟩:=hT;have hvr:vals r=v:=by
  cases hr with
  | ref _ _ hv _=>simpa [C0] using hv
 have hL:look (A4 d (.val (.ptr true (.agg cs))) (A4 r .top σ)) d = .val (.ptr true (.agg cs)):=by rw [Cc];simp [upF,A.mapR]
 have hd':vals' d=hv:=by rw [hvals];simp [upF]
 obtain ⟨us',h1,h2,h3⟩:=Ado hok hL (p:=[]) (u:= .ptr true (.agg cs)) rfl rfl (v:=vals' d) rfl cs 0 (by intro j hj;simp [V.kids,V.cells]);have hus:us'=us:=by
  apply List.ext_getElem?;intro j;by_cases hj:j<us'.length
  ·have:=h2 j hj;rw [<-this,hd',<-hk j];simp
  ·rw [List.getElem?_eq_none (by omega),List.getElem?_eq_none];simp only [V.cells] at hl;omega
 subst hus;have hvu:v = .agg us'.toArray:=by obtain ⟨vs,rfl,_⟩:=Aul rV;simp only [Value.cells] at hcells;rw [hcells]
 have hv':vals' r = .agg us'.toArray:=by rw [hvals,<-hvu,<-hvr];simp [upF,hrd]
 have htop:look (A4 d (.val (.ptr true (.agg cs))) (A4 r .top σ)) r = .top:=by rw [Cc];simp only [upF,Ic];rw [if_neg hrd,if_neg hrd,Cc];simp [upF,A.mapR]
 have hs:=hok.sim.put_rel r (.agg (Wj d [] 0 cs)) htop (by rw [hv'];exact .agg h3 .nil);have e:look ((r,A.agg (Wj d [] 0 cs))::erase r (A4 d (.val (.ptr true (.agg cs))) (A4 r .top σ)))=upF (look (A4 d (.val (.ptr true (.agg cs))) (A4 r .top σ))) r (.agg (Wj d [] 0 cs)):=by
  funext s;simp only [look,U8,upF];by_cases hs:r=s
  ·subst hs;simp
  ·rw [if_neg hs,if_neg (Ne.symm hs),if_neg (Ne.symm hs)]
 rw [<-e] at hs;exact ⟨hs,hok.lo,hok.hi,hok.sz,hok.df⟩
theorem A60 {P:Program} {o:Oper} {σ σ' a w O gv N vals fp} {d:Nat} {t x x'} (h:Ok σ a w O gv N vals fp) (ho:o.op = .box t x') (hd:o.dst=some d) (hN:d<N)
  (hx:Be N x x'=true) (hs:A5h d (Am σ x) σ=some σ'):B4 P o σ' a w O gv N fp:=by
 simp only [A5h] at hs;split at hs
 case h_2=>cases hs
 rename_i U σ1 hU;split at hs
 case isFalse=>cases hs
 rename_i hc;cases hs;have hrel:=A9 h hx;obtain ⟨fp1,fpV,o1,rV,nV,dV,s1⟩:=Sk h hrel hU;obtain ⟨us,hcells,rus⟩:=Acz rV hc;have hl:=rus.length;exact Ay8 (w':=w.alloc (.cells us.toArray t)) (arr:=us.toArray) (e:=t) o1 hd hN s1 dV nV rfl rfl rfl rfl (.ptr true U w.heap.size 0) (by simp [hl]) (by simpa [hl] using (by rw [<-hl];simpa using rus))
  (by simp [execOp,ho,Instr.box,newVar,newRow,hcells])
  (λa' vals' fp' hok hv=>A1z h hrel hU rV hcells hl hok hv (by
   intro j;have e:(w.alloc (.cells us.toArray t)).heap=w.heap.push (.cells us.toArray t (0,0)):=rfl;have e2:(w.alloc (.cells us.toArray t)).heap[w.heap.size]? = some (.cells us.toArray t (0,0)):=by rw [e];simp
   simp only [Hk,World.cell?,Nat.zero_add];rw [e2];simp))
theorem A6c {w O tv f cs v fp} (h:RdL w O [.clov tv f cs] [v] fp):v=tv:=by
 cases h with
 | leaf hl _=>cases hl
 | grp hg _ _=>cases hg;rfl
 | fblk hh _ _ _ _=>cases hh
 | oblk hh _ _ _ _ _=>cases hh
def A40 (d:Nat) (z:V) (σ:St):Option St:=if Em z.cells then some (A4 d (.val (.ptr true z.up)) σ) else none
theorem A75 {P:Program} {o:Oper} {σ σ' a w O gv N vals fp} {d:Nat} {t z zv} {fi:TypeInfo} (h:Ok σ a w O gv N vals fp) (ho:o.op = .alloc t) (hd:o.dst=some d) (hN:d<N)
  (hi:P.info? t=some fi) (hz:fi.zero=some zv) (hc:cRd z zv=true) (hs:A40 d z σ=some σ'):B4 P o σ' a w O gv N fp:=by
 simp only [A40] at hs;split at hs
 case isFalse=>cases hs
 rename_i hcell;cases hs;obtain ⟨rV,_⟩:=Api w O z zv hc;obtain ⟨us,hcells,rus⟩:=Acz rV.up1 (by rw [Ap8];unfold Em at hcell ⊢;rw [Alq];exact hcell);have hl:=rus.length;exact Afk (w':=w.alloc (.cells us.toArray t)) (arr:=us.toArray) (e:=t) (fpV:=[]) h hd hN (λ_=>id) (by simp) (by simp) rfl rfl rfl rfl (.ptr true z.up w.heap.size 0) (by simp [hl])
  (by simpa [hl] using (by rw [<-hl];simpa using rus)) (by simp [execOp,ho,Instr.alloc,zeroValue,typeInfo,hi,hz,newVar,newRow,hcells])
def LIM:Nat:=4294967296
theorem Adn {n:Int} (h0 : -9223372036854775808<=n) (h1:n<=9223372036854775807):IntKind.i64.wrap n=n:=by exact IntWalk.i64_in n ⟨h0,h1⟩
def mkS (d m:Nat) (z:V) (x:A) (σ:St):Option St:=match x with
 | .val (.int _ n)=>if 0<=n/\n<=(LIM:Int) then some (A4 d (.val (.sl true m (List.replicate n.toNat z.up))) σ) else none
 | _=>none
theorem Ach (n:Nat) (z:V):Bo (List.replicate n z)=(List.replicate n z.cells).flatten:=by
 induction n with
 | zero=>rfl
 | succ n ih=>simp [List.replicate_succ,Bo,ih]
theorem Atx {w O z zs} (h:RdL w O z zs []) (n:Nat):RdL w O (List.replicate n z).flatten (List.replicate n zs).flatten []:=by
 induction n with
 | zero=>exact .nil
 | succ n ih=>simpa [List.replicate_succ] using h.append ih
theorem A6d (zs:List Value) : ∀n,(madeCells zs.toArray (n*zs.length)).toList=(List.replicate n zs).flatten:=by
 intro n;apply List.ext_getElem?;intro i;rcases Nat.eq_zero_or_pos zs.length with h0 | hpos
 ·have:zs=[]:=List.eq_nil_of_length_eq_zero h0;subst this;simp [madeCells]
 have hR : ∀n i,(List.replicate n zs).flatten[i]? = if i<n*zs.length then zs[i%zs.length]? else none:=by
  intro n
  induction n with
  | zero=>intro i;simp
  | succ n ih=>
    intro i;rw [List.replicate_succ,List.flatten_cons];rcases Nat.lt_or_ge i zs.length with h | h
    ·rw [List.getElem?_append_left h,if_pos (by rw [Nat.succ_mul];omega),Nat.mod_eq_of_lt h]
    ·rw [List.getElem?_append_right h,ih];have e:i%zs.length=(i-zs.length)%zs.length:=by rw [Nat.mod_eq_sub_mod h]
     rw [e];by_cases hlt:i-zs.length<n*zs.length
     ·rw [if_pos hlt,if_pos (by rw [Nat.succ_mul];omega)]
     ·rw [if_neg hlt,if_neg (by rw [Nat.succ_mul];omega)]
 rw [hR];simp only [madeCells,Array.toList_map,Array.toList_range,List.getElem?_map];by_cases hlt:i<n*zs.length
 ·rw [if_pos hlt,List.getElem?_range hlt];have hm:i%zs.length<zs.length:=Nat.mod_lt _ hpos;simp [hm]
 rw [if_neg hlt,List.getElem?_eq_none (by simpa using hlt)];rfl
theorem A6p {P:Program} {o:Oper} {σ σ' a w O gv N vals fp} {d m:Nat} {t x x' e z zv} {fi:TypeInfo} (h:Ok σ a w O gv N vals fp) (ho:o.op = .makeSlice t x' x') (hd:o.dst=some d) (hN:d<N)
  (hx:Be N x x'=true) (hu:P.underlying t=some (.slice e)) (hi:P.info? e=some fi) (hsz:fi.size=m) (hz:fi.zero=some zv) (hc:cRd z zv=true) (hzc:Em z.cells=true)
  (hzm:z.cells.length=m) (hby:fi.bytes<=1024) (hs:mkS d m z (Am σ x) σ=some σ'):B4 P o σ' a w O gv N fp:=by
 cases hcc:Am σ x with
 | val v=>
   cases v with
   | int k n=>
     rw [hcc] at hs;have hr:=A9 h hx;rw [hcc] at hr;have hv:a.eval x' = .int k n:=by cases hr with | val _ hr _=>exact Cr hr
     simp only [mkS] at hs;split at hs
     case isFalse=>cases hs
     rename_i hb;cases hs;simp only [LIM] at hb;obtain ⟨rV,_⟩:=Api w O z zv hc;replace rV:=rV.up1;replace hzc:Em z.up.cells=true:=by rw [Ap8];unfold Em at hzc ⊢;rw [Alq];exact hzc
     replace hzm:z.up.cells.length=m:=by rw [Ap8,Ayr];exact hzm
     generalize z.up=z at rV hzc hzm ⊢;obtain ⟨zs,hcells,rzs⟩:=Acz rV hzc;have hzl:zs.length=m:=by rw [rzs.length,hzm]
     have hbytes:(fi.bytes:Int)*n<=281474976710656:=by
      have h1:(fi.bytes:Int)<=1024:=by omega
      calc (fi.bytes:Int)*n<=1024*n:=Int.mul_le_mul_of_nonneg_right h1 hb.1
       _<=281474976710656:=by omega
     have hrun:=run_make (P:=P) w t e fi zv hu hi hz k k n n hb.1 (Int.le_refl _) hbytes (by omega);have hfl:(Bo (List.replicate n.toNat z)).length=n.toNat*m:=by rw [Ach];simp [hzm]
     have harr:(madeCells zv.cells (n.toNat*fi.size)).toList=(List.replicate n.toNat zs).flatten:=by rw [hcells,hsz,<-hzl];exact A6d zs n.toNat
     have hsize:(madeCells zv.cells (n.toNat*fi.size)).size=n.toNat*m:=by simp [madeCells,hsz]
     have hhdr:=Hdr.sl true m (List.replicate n.toNat z) w.heap.size 0 n.toNat (by intro y hy;rw [(List.mem_replicate.1 hy).2];exact hzm) (by simp);simp only [List.length_replicate] at hhdr;refine Afk (w':=w.alloc (.cells (madeCells zv.cells (n.toNat*fi.size)) e)) (fpV:=[]) h hd hN (λ_=>id) (by simp) (by simp) rfl rfl rfl rfl hhdr (by rw [hsize];omega) ?_
      (by simp [execOp,ho,hv,hrun])
     rw [harr,List.take_of_length_le (by rw [hfl,<-harr,Array.length_toList,hsize];omega),Ach];exact Atx rzs n.toNat
   | _=>rw [hcc] at hs;simp [mkS] at hs
 | _=>rw [hcc] at hs;simp [mkS] at hs
def A1q (d m:Nat) (x:A) (σ:St):Option St:=match x with
 | .val (.int _ n)=>if 0<=n/\n<=(LIM:Int) then some (A4 d (.val (.sl true m [])) σ) else none
 | _=>none
theorem A6z {P:Program} {o:Oper} {σ σ' a w O gv N vals fp} {d m:Nat} {t x x' e zv k0} {fi:TypeInfo} (h:Ok σ a w O gv N vals fp) (ho:o.op = .makeSlice t (.const (.int k0 0)) x') (hd:o.dst=some d) (hN:d<N)
  (hx:Be N x x'=true) (hu:P.underlying t=some (.slice e)) (hi:P.info? e=some fi) (hsz:fi.size=m) (hz:fi.zero=some zv)
  (hby:fi.bytes<=1024) (hs:A1q d m (Am σ x) σ=some σ'):B4 P o σ' a w O gv N fp:=by
 cases hcc:Am σ x with
 | val v=>
   cases v with
   | int k n=>
     rw [hcc] at hs;have hr:=A9 h hx;rw [hcc] at hr;have hv:a.eval x' = .int k n:=by cases hr with | val _ hr _=>exact Cr hr
     simp only [A1q] at hs;split at hs
     case isFalse=>cases hs
     rename_i hb;cases hs;simp only [LIM] at hb;have hbytes:(fi.bytes:Int)*n<=281474976710656:=by
      have h1:(fi.bytes:Int)<=1024:=by omega
      calc (fi.bytes:Int)*n<=1024*n:=Int.mul_le_mul_of_nonneg_right h1 hb.1
       _<=281474976710656:=by omega
     have hrun:=run_make (P:=P) w t e fi zv hu hi hz k0 k 0 n (Int.le_refl 0) hb.1 hbytes (by omega);have hsize:(madeCells zv.cells (n.toNat*fi.size)).size=n.toNat*m:=by simp [madeCells,hsz]
     have hhdr:=Hdr.sl true m [] w.heap.size 0 n.toNat (by intro y hy;cases hy) (by simp);simp only [List.length_nil] at hhdr;refine Afk (w':=w.alloc (.cells (madeCells zv.cells (n.toNat*fi.size)) e)) (fpV:=[]) h hd hN (λ_=>id) (by simp) (by simp) rfl rfl rfl rfl hhdr (by rw [hsize];omega) ?_
      (by have he:a.eval (Operand.const (Value.int k0 0))=Value.int k0 0:=rfl;simp [execOp,ho,hv,he,hrun])
     exact .nil
   | _=>rw [hcc] at hs;simp [A1q] at hs
 | _=>rw [hcc] at hs;simp [A1q] at hs
end Go.Proofs.Ytaalgpkajkogkaa.Ax
namespace Go.Proofs.Ytaalgpkajkogkaa.Ax
open Go
theorem Alu : ∀(us:List Value) (k off:Nat) (cells:Array Value),off+k+us.length<=cells.size ->
  ((us.zipIdx k).foldl (λ(cs:Array Value) (x:Value×Nat)=>cs.setIfInBounds (off+x.2) x.1) cells).toList=splice cells.toList (off+k) us:=by
 intro us
 induction us with
 | nil=>intro k off cells _;simp [splice]
 | cons u r ih=>
   intro k off cells h;simp only [List.zipIdx_cons,List.foldl_cons];simp at h;rw [ih (k+1) off _ (by simp;omega)];simp only [splice,Array.toList_setIfInBounds,List.length_cons];have hlt:off+k<cells.toList.length:=by simp;omega
   rw [List.set_eq_take_append_cons_drop,if_pos hlt];have e1:off+(k+1)=off+k+1:=by omega
   rw [e1];have hl:(cells.toList.take (off+k)).length=off+k:=by simp;omega
   rw [List.take_append,List.drop_append,hl];rw [List.take_of_length_le (l:=cells.toList.take (off+k)) (by omega),List.drop_eq_nil_of_le (as:=cells.toList.take (off+k)) (by omega)];simp only [Nat.add_sub_cancel_left];rw [show off+k+1+r.length-(off+k)=r.length+1 by omega];simp only [List.take_succ_cons,List.take_zero,List.drop_succ_cons,List.drop_drop,List.nil_append,List.append_assoc,List.cons_append];congr 4;omega
theorem Art {place:Nat->Option (Nat×Nat)} {cells:Array Value} {i off size:Nat} {v:Value} {rest:List (Nat×Value)} (hp:place i=some (off,size)) (hs:v.cells.size=size)
  (hl:off+size<=cells.size) : ∃cells',Instr.fill place cells ((i,v)::rest)=Instr.fill place cells' rest/\cells'.toList=splice cells.toList off v.cells.toList/\cells'.size=cells.size:=by
 refine ⟨v.cells.zipIdx.foldl (λcs (c,j)=>cs.setIfInBounds (off+j) c) cells,?_,?_,?_⟩
 ·simp only [Instr.fill,hp];rw [if_neg (by simp [hs];omega)]
 ·rw [<-Array.foldl_toList,Array.toList_zipIdx];have:=Alu v.cells.toList 0 off cells (by simp [hs];omega);simpa using this
 have:=Alu v.cells.toList 0 off cells (by simp [hs];omega);rw [<-Array.foldl_toList,Array.toList_zipIdx];rw [<-Array.length_toList];have h2:=congrArg List.length this;rw [Xq (by simp [hs];omega)] at h2;simpa using h2
theorem A3o (size:Nat) : ∀(vs:List Value) (k:Nat) (cells:Array Value),(∀v∈vs,v.cells.size=size)->(k+vs.length)*size<=cells.size ->
  ∃cells',Instr.fill (λi=>some (i*size,size)) cells ((List.range' k vs.length).zip vs)=some cells' /\
    cells'.toList=splice cells.toList (k*size) (vs.map (·.cells.toList)).flatten:=by
 intro vs
 induction vs with
 | nil=>intro k cells _ _;exact ⟨cells,rfl,by simp [splice]⟩
 | cons v r ih=>
   intro k cells hv hl;simp only [List.length_cons] at hl;have hk:k*size+size<=cells.size:=by have:(k+1)*size<=(k+(r.length+1))*size:=Nat.mul_le_mul_right _ (by omega);rw [Nat.succ_mul] at this;omega
   obtain ⟨c1,h1,h2,h3⟩:=Art (place:=λi=>some (i*size,size)) (cells:=cells) (i:=k) (v:=v) (rest:=(List.range' (k+1) r.length).zip r) rfl (hv v (by simp)) hk;obtain ⟨c2,h4,h5⟩:=ih (k+1) c1 (λu hu=>hv u (by simp [hu])) (by rw [h3];rw [show k+1+r.length=k+(r.length+1) by omega];exact hl);refine ⟨c2,?_,?_⟩
   ·rw [List.length_cons,List.range'_succ,List.zip_cons_cons,h1,h4]
   ·rw [h5,h2];have hvl:v.cells.toList.length=size:=by simp [hv v (by simp)]
    simp only [splice,List.map_cons,List.flatten_cons,List.length_append,hvl];have hl1:(cells.toList.take (k*size)).length=k*size:=by simp;omega
    rw [List.take_append,List.drop_append,hl1,List.take_of_length_le (l:=cells.toList.take (k*size)) (by rw [hl1,Nat.succ_mul];omega),
     List.drop_eq_nil_of_le (as:=cells.toList.take (k*size)) (by rw [hl1,Nat.succ_mul];omega)]
    rw [show (k+1)*size-k*size=size by rw [Nat.succ_mul];omega];rw [List.take_append,hvl,List.take_of_length_le (l:=v.cells.toList) (by omega),Nat.sub_self,List.take_zero,List.append_nil];rw [show ∀q,(k+1)*size+q-k*size=size+q from λq=>by rw [Nat.succ_mul];omega];rw [List.drop_append,hvl,List.drop_eq_nil_of_le (as:=v.cells.toList) (by omega),Nat.add_sub_cancel_left];simp only [List.nil_append,List.drop_drop,List.append_assoc];have e : ∀q,k*size+size+q=k*size+(size+q):=λq=>by omega
    rw [e]
def Rk (σ:St):List A->Option (List V×St)
 | []=>some ([],σ)
 | a::r=>match Kg σ a with
   | some (v,σ1)=>match Rk σ1 r with
     | some (vs,σ2)=>some (v::vs,σ2)
     | none=>none
   | none=>none
theorem A1n {a w O gv N vals L} : ∀ {as:List A} {σ vs fp Us σ'},Ok σ a w O gv N vals fp->RelL w O L vals as vs->Rk σ as=some (Us,σ') ->
  ∃fp' fpV,Ok σ' a w O gv N vals fp'/\RdL w O Us vs fpV/\fpV.Nodup/\(∀b∈fpV,Sof fp b/\¬Sof fp' b)/\(∀b,Sof fp' b->Sof fp b):=by
 intro as
 induction as with
 | nil=> intro σ vs fp Us σ' h hr ht;simp [Rk] at ht;obtain ⟨rfl,rfl⟩:=ht;cases hr;exact ⟨fp,[],h,.nil,by simp,by simp,λ_=>id⟩
 | cons x r ih=>
   intro σ vs fp Us σ' h hr ht;simp only [Rk] at ht;split at ht
   case h_2=>cases ht
   rename_i U σ1 h1;split at ht
   case h_2=>cases ht
   rename_i Us' σ2 h2;cases ht;have hlen:=hr.length
   match vs,hlen with
   | v::vs,_=>
     have hr1:RelL w O L vals [x] [v]/\RelL w O L vals r vs:=by
      cases hr with
      | top t=>exact ⟨.top .nil,t⟩
      | val a b t=>exact ⟨.val a b .nil,t⟩
      | ref a b c t=>exact ⟨.ref a b c .nil,t⟩
      | rfv a b c t=>exact ⟨.rfv a b c .nil,t⟩
      | addr a b c d e t=>exact ⟨.addr a b c d e .nil,t⟩
      | fad a b c t=>exact ⟨.fad a b c .nil,t⟩
      | agg s t=>exact ⟨.agg s .nil,t⟩
      | clo s t=>exact ⟨.clo s .nil,t⟩
     obtain ⟨fp1,f1,o1,r1,n1,d1,s1⟩:=Sk h hr1.1 h1;obtain ⟨fp2,f2,o2,r2,n2,d2,s2⟩:=ih o1 hr1.2 h2;refine ⟨fp2,f1++f2,o2,r1.append r2,?_,?_,λb hb=>s1 b (s2 b hb)⟩
     ·refine List.nodup_append.2 ⟨n1,n2,?_⟩;rintro b hb c hc rfl;exact (d1 b hb).2 (d2 b hc).1
     ·intro b hb;rcases List.mem_append.1 hb with hb | hb
      ·exact ⟨(d1 b hb).1,λhh=>(d1 b hb).2 (s2 b hh)⟩
      ·exact ⟨s1 b (d2 b hb).1,(d2 b hb).2⟩
def Vq (m:Nat):List V->Bool
 | []=>true
 | u::r=>decide (u.cells.length=m)&&Em u.cells&&Vq m r
theorem A56 {w O m} : ∀ {Us vs fp},RdL w O Us vs fp->Vq m Us=true -> ∃us,(vs.map (·.cells.toList)).flatten=us/\RdL w O (Bo Us) us fp/\(∀v∈vs,v.cells.size=m) /\
  us.length=Us.length*m/\(∀u∈Us,u.cells.length=m):=by
 intro Us
 induction Us with
 | nil=>intro vs fp h _;cases h;exact ⟨[],rfl,.nil,by simp,by simp,by simp⟩
 | cons x r ih=>
   intro vs fp h ha;simp only [Vq,Bool.and_eq_true,decide_eq_true_eq] at ha;obtain ⟨v,vs2,f1,f2,rfl,rfl,h1,h2⟩:=h.cons_split;obtain ⟨us,hc,hr⟩:=Acz h1 ha.1.2;obtain ⟨us2,e2,r2,m2,l2,c2⟩:=ih h2 ha.2;have hul:us.length=m:=by rw [hr.length,ha.1.1]
   refine ⟨us++us2,by simp [hc,e2],hr.append r2,?_,?_,?_⟩
   ·intro u hu;rcases List.mem_cons.1 hu with rfl | hu
    ·simp [hc,hul]
    ·exact m2 u hu
   ·rw [List.length_append,hul,l2,List.length_cons,Nat.succ_mul];omega
   ·intro u hu;rcases List.mem_cons.1 hu with rfl | hu
    ·exact ha.1.1
    ·exact c2 u hu
def Awd (d m:Nat) (xs:List A) (σ:St):Option St:=match Rk σ xs with
 | some (Us,σ1)=>if Vq m Us then some (A4 d (.val (.sl true m Us)) σ1) else none
 | none=>none
def Q7 (N:Nat):List X->List Operand->Bool
 | [],[]=>true
 | x::xs,o::os=>Be N x o&&Q7 N xs os
 | _,_=>false
theorem Agx {σ a w O gv N vals fp} (h:Ok σ a w O gv N vals fp) : ∀ {xs:List X} {os:List Operand},Q7 N xs os=true->RelL w O (look σ) vals (xs.map (Am σ)) (os.map a.eval):=by
 intro xs
 induction xs with
 | nil=>intro os hf;cases os<;>simp [Q7] at hf;exact .nil
 | cons x r ih=>
   intro os hf;cases os with
   | nil=>simp [Q7] at hf
   | cons o os=> simp only [Q7,Bool.and_eq_true] at hf;exact (A9 h hf.1).cons_join (ih hf.2)
theorem A3p {P:Program} {o:Oper} {σ σ' a w O gv N vals fp} {d m:Nat} {t e} {n:Nat} {xs:List X} {parts:Array (Nat×Operand)} {fi:TypeInfo} {z:Value} (h:Ok σ a w O gv N vals fp)
  (ho:o.op = .buildSlice t n parts) (hd:o.dst=some d) (hN:d<N) (hp1:parts.toList.map (·.1)=List.range n) (hp2:Q7 N xs (parts.toList.map (·.2))=true)
  (hu:P.underlying t=some (.slice e)) (hi:P.info? e=some fi) (hsz:fi.size=m) (hz:fi.zero=some z) (hm:0<m) (hsmall:n*m<=16777216)
  (hs:Awd d m (xs.map (Am σ)) σ=some σ'):B4 P o σ' a w O gv N fp:=by
 simp only [Awd] at hs;split at hs
 case h_2=>cases hs
 rename_i Us σ1 hU;split at hs
 case isFalse=>cases hs
 rename_i hall;cases hs;obtain ⟨fp1,fpV,o1,rV,nV,dV,s1⟩:=A1n h (Agx h hp2) hU;obtain ⟨us,eus,rus,hsize,hlen,hUc⟩:=A56 rV hall;have hn:(parts.toList.map (·.2)).length=n:=by have:=congrArg List.length hp1;simpa using this
 have hUn:Us.length=n:=by have:=rV.length;simp at this;simp at hn;omega
 have hparts:(parts.map λ(x:Nat×Operand)=>(x.1,a.eval x.2)).toList=(List.range' 0 n).zip ((parts.toList.map (·.2)).map a.eval):=by
  simp only [Array.toList_map];rw [<-List.range_eq_range',<-hp1];generalize parts.toList=l
  induction l with
  | nil=>rfl
  | cons x r ih=>simp [ih]
 have hhdr:=Hdr.sl true m Us w.heap.size 0 n hUc (by omega);rw [hUn] at hhdr;by_cases h0:n=0
 ·subst h0;have hUe:Us=[]:=List.eq_nil_of_length_eq_zero hUn;subst hUe;refine Afk (w':=w.alloc (.cells #[] e)) (arr := #[]) (e:=e) o1 hd hN s1 dV nV rfl rfl rfl rfl hhdr (by simp) ?_ ?_
  ·have:us=[]:=by simpa using hlen
   subst this;simpa [Bo] using rus
  have:parts.toList=[]:=by simpa using hp1
  have:parts = #[]:=by simpa using this
  subst this;simp [execOp,ho,Instr.buildSlice,run_underlying hu,Gj hi,Instr.fill,newRow];congr 2;apply Array.ext<;>simp
 obtain ⟨cells,hf,hc⟩:=A3o m ((parts.toList.map (·.2)).map a.eval) 0 ((Array.range (n*m)).map (z.cells[· % z.cells.size]!)) hsize (by simp at hn ⊢;rw [hn];exact Nat.le_refl _);have hcells:cells.toList=us:=by
  rw [hc,eus];have:us.length=n*m:=by rw [hlen,hUn]
  simp [splice,this]
 refine Afk (w':=w.alloc (.cells cells e)) (arr:=cells) (e:=e) o1 hd hN s1 dV nV rfl rfl rfl rfl hhdr (by rw [<-Array.length_toList,hcells,hlen,hUn];omega) ?_ ?_
 ·rw [hcells,List.take_of_length_le (by rw [<-rus.length];omega)];exact rus
 have hpos:¬n*fi.size=0:=by rw [hsz];exact Nat.ne_of_gt (Nat.mul_pos (by omega) hm)
 have hbs:=run_buildSlice (P:=P) w t e n (parts.map λ(x:Nat×Operand)=>(x.1,a.eval x.2)) cells fi z hu hi hz (by rw [hsz];omega) hpos (by rw [hparts,hsz];simp only [List.length_map] at hf hn;rw [hn] at hf;exact hf);simp [execOp,ho,hbs]
end Go.Proofs.Ytaalgpkajkogkaa.Ax
namespace Go.Proofs.Ytaalgpkajkogkaa.Ax
open Go
theorem Ae3 {P:Program} (w:World) (t ty e e':TypeId) (i:TypeInfo) (ht:P.underlying t=some (.slice e)) (hi:P.info? e=some i)
  (g sLen sCap:Nat) (cur:Array Value) (hg:w.heap[g]? = some (.cells cur e' (0,0)))
  (b:Value) (m:Nat) (news:List Value) (_hf : ∀w,(Builtin.firstCells i.size m b).run P w = .ok news.toArray w->True)
  (hlen:(Builtin.lenOf b).run P w = .ok m w) (hfirst:(Builtin.firstCells i.size m b).run P w = .ok news.toArray w) (h1 : ∀u∈news,u.oneCell'=true)
  (hroom:sLen+m<=sCap) (hfit:sLen*i.size+news.length<=cur.size) :
  (Builtin.append_ #[t,t] ty #[.slice (some ⟨g,0,none⟩) sLen sCap,b]).run P w =
   .ok (.slice (some ⟨g,0,none⟩) (sLen+m) sCap) (w.setRow g (cur.toList.take (sLen*i.size)++news++cur.toList.drop (sLen*i.size+news.length)).toArray):=by
 have hst:=run_storeCells_at P g (sLen*i.size) e' news 0 cur w hg (by simpa using hfit) h1;simp only [Nat.add_zero] at hst;simp [Builtin.append_,run_underlying ht,Go.sizeOf,typeInfo,hi,hlen,hroom,hfirst,Addr.add_lit,hst]
def yS (σ:St) (m:Nat):A->Option (List V×St)
 | .val (.sl _ m' ys)=>if m'=m then some (ys,σ) else none
 | .val (.nilsl _)=>some ([],σ)
 | .ref r p=>match Cd σ r p with
   | some (.sl o m' ys)=>if o=true/\m'=m then (if Bl (Bo ys) then (match Ia σ (.ref r p) with | some (_,σ1)=>some (ys,σ1) | none=>none) else some (ys,σ)) else none
   | _=>none
 | _=>none
theorem Ayw {σ r p U σ1 u} (h:Ia σ (.ref r p)=some (U,σ1)) (hn:Cd σ r p=some u):U=u:=by
 unfold Cd at hn;split at hn
 case h_2=>cases hn
 rename_i V hV;cases p with
 | nil=>simp [Ia,hV] at h;simp [sub] at hn;rw [<-h.1,hn]
 | cons c p=>
   simp only [Ia,hV,hn] at h;split at h
   ·cases h;rfl
   ·cases h
theorem Ao3 {w O m ys v fp} (h:RdL w O [.sl true m ys] [v] fp):(ys=[]/\v = .slice none 0 0/\fp=[]) \/ ∃b cap arr e fpk,v = .slice (some ⟨b,0,none⟩) ys.length cap/\w.heap[b]? = some (.cells arr e (0,0))/\ys.length<=cap/\cap*m<=arr.size /\
  (∀y∈ys,y.cells.length=m)/\RdL w O (Bo ys) (arr.toList.take (Bo ys).length) fpk/\fp=b::fpk/\O b:=by
 rcases Ahb h rfl rfl with ⟨m',e1,e2,e3⟩ | ⟨b,k,arr,e,f1,hh,hb,hO,hk,hr,rfl⟩
 ·cases e1;exact .inl ⟨rfl,e2,e3⟩
 cases hh with
 | sl _ _ _ _ _ cap hm hcap=>exact .inr ⟨b,cap,arr,e,f1,rfl,hb,hcap,hk,hm,hr,rfl,hO⟩
theorem Jk {m:Nat} : ∀ {ys:List V},(∀y∈ys,y.cells.length=m)->(Bo ys).length=ys.length*m:=by
 intro ys
 induction ys with
 | nil=>intro _;simp [Bo]
 | cons y r ih=> intro h;simp only [Bo,List.length_append,List.length_cons];rw [h y (by simp),ih λz hz=>h z (by simp [hz]),Nat.succ_mul];omega
theorem Axn {w O o m ys v fp} (h:RdL w O [.sl o m ys] [v] fp) (ho:o=false) :
  ∃q c us,v = .slice q ys.length c/\RdL w O (Bo ys) us []/\(∀z∈ys,z.cells.length=m) /\
    ((ys=[]/\us=[]) \/ ∃b,q=some b /\ ∀j u,us[j]? = some u->w.cell? (b.add j)=some u):=by
 subst ho;cases h with
 | leaf hl _=>cases hl<;>exact ⟨_,_,[],rfl,.nil,by simp,.inl ⟨rfl,rfl⟩⟩
 | grp hg _ _=>cases hg
 | oblk hh _ _ _ _ _=>cases hh
 | fblk hh hc hO s t=>
   cases hh with
   | sl _ _ _ b off cap hm hcap=> refine ⟨_,_,_,rfl,s,hm,.inr ⟨_,rfl,?_⟩⟩;intro j u hj;rw [Ii,hc j (List.getElem?_eq_some_iff.1 hj).1];exact hj
theorem Adl {w:World} {b:Nat} {arr:Array Value} {e:TypeId} {n:Nat} (hb:w.heap[b]? = some (.cells arr e (0,0))) :
  ∀j u,(arr.toList.take n)[j]? = some u->w.cell? ((⟨b,0,none⟩:Addr).add j)=some u:=by
 intro j u hj;rw [List.getElem?_take] at hj;split at hj
 ·rw [Ii,Nat.zero_add];simp only [World.cell?,hb];simpa using hj
 cases hj
theorem A6l {σ a w O gv N vals fp m y v ys σ'} (h:Ok σ a w O gv N vals fp) (hr:RelL w O (look σ) vals [y] [v]) (hy:yS σ m y=some (ys,σ')) :
  ∃fp' fpY us,Ok σ' a w O gv N vals fp'/\RdL w O (Bo ys) us fpY/\fpY.Nodup/\(∀b∈fpY,Sof fp b/\¬Sof fp' b)/\(∀b,Sof fp' b->Sof fp b) /\
    (∀z∈ys,z.cells.length=m) /\ ∃q c,v = .slice q ys.length c/\((ys=[]/\us=[]) \/ ∃b,q=some b /\ ∀j u,us[j]? = some u->w.cell? (b.add j)=some u):=by
 unfold yS at hy;split at hy
 ·rename_i o m' ys';split at hy
  case isFalse=>cases hy
  rename_i hm;cases hy;subst hm;cases hr with
  | val hn hr _=> obtain ⟨q,c,us,hv,h1,h2,h3⟩:=Axn hr (by simpa [V.hasOwn] using hn);exact ⟨fp,[],us,h,h1,by simp,by simp,λ_=>id,h2,q,c,hv,h3⟩
 ·cases hy;cases hr with
  | val hn hr _=>exact ⟨fp,[],[],h,.nil,by simp,by simp,λ_=>id,by simp,none,0,by rw [Aw9 hr];rfl,.inl ⟨rfl,rfl⟩⟩
 ·rename_i r p;split at hy
  case h_2=>cases hy
  rename_i o m' ys' hnode;split at hy
  case isFalse=>cases hy
  rename_i hc;obtain ⟨rfl,rfl⟩:=hc;split at hy
  ·rename_i hown;split at hy
   case h_2=>cases hy
   rename_i U σ1 ht;cases hy;have hU:=Ayw ht hnode;subst hU;obtain ⟨fp',fpV,o1,rV,nV,dV,s1⟩:=Xr h (Aiv hr rfl).1 ht;rcases Ao3 rV with ⟨rfl,hv,rfl⟩ | ⟨b,cap,arr,e,fpk,hv,hb,hcap,hk,hm,hf,rfl,hO⟩
   ·simp [Bo,Bl] at hown
   exact ⟨fp',fpk,_,o1,hf,(List.nodup_cons.1 nV).2,λq hq=>dV q (by simp [hq]),s1,hm,_,_,hv,.inr ⟨_,rfl,Adl hb⟩⟩
  rename_i hown;cases hy;cases hr with
  | @ref _ _ V u _ _ _ hL hs hv _=>
    simp only [Cd,hL,hs,Option.some.injEq] at hnode;subst hnode;obtain ⟨z,f1,fu,f2,_,hz,hru,_⟩:=ctx p (h.sim.own r V hL) hs;rw [hv] at hz;cases hz;rcases Ao3 hru with ⟨rfl,hv',rfl⟩ | ⟨b,cap,arr,e,fpk,hv',hb,hcap,hk,hm,hf,rfl,hO⟩
    ·exact ⟨fp,[],[],h,.nil,by simp,by simp,λ_=>id,by simp,none,0,hv',.inl ⟨rfl,rfl⟩⟩
    have:fpk=[]:=hf.noOwn (by simpa using hown);subst this;exact ⟨fp,[],_,h,hf,by simp,by simp,λ_=>id,hm,_,_,hv',.inr ⟨_,rfl,Adl hb⟩⟩
 cases hy
def A0y (d m:Nat) (x y:X) (σ:St):Option St:=match yS σ m (Am σ y) with
 | some (ys,σ1)=>match Kg σ1 (Am σ1 x) with
   | some (.sl o m' xs,σ2)=>if o=true/\m'=m/\Em (Bo ys)=true/\xs.length+ys.length<=LIM then some (A4 d (.val (.sl true m (xs++ys))) σ2) else none
   | _=>none
 | none=>none
theorem Afc {P:Program} {w:World} {size n:Nat} {q:Option Addr} {c:Nat} {us:List Value} {ys:List V} (hl:us.length=n*size) (hn:ys.length=n)
  (h:(ys=[]/\us=[]) \/ ∃b,q=some b /\ ∀j u,us[j]? = some u->w.cell? (b.add j)=some u) :
  (Builtin.firstCells size n (.slice q n c)).run P w = .ok us.toArray w:=by
 rcases h with ⟨rfl,rfl⟩ | ⟨b,rfl,hc⟩
 ·simp at hn;subst hn;cases q with
  | none=>simp [Builtin.firstCells]
  | some b=>simp [Builtin.firstCells,loadCells,loadCellsFrom]
 exact run_firstCells_some (P:=P) w size n b n c us hl hc
theorem A68 {P:Program} {o:Oper} {σ σ' a w O gv N vals fp} {d m:Nat} {t e x x' y y'} {fi:TypeInfo} {z:Value} (h:Ok σ a w O gv N vals fp)
  (ho:o.op = .call { callee:= .builtin .append,args := #[x',y'],argTypes := #[t,t] }) (hd:o.dst=some d) (hN:d<N) (hx:Be N x x'=true) (hy:Be N y y'=true)
  (hu:P.underlying t=some (.slice e)) (hi:P.info? e=some fi) (hsz:fi.size=m) (hz:fi.zero=some z) (hzs:z.cells.size=m) (hby:fi.bytes<=1024)
  (hs:A0y d m x y σ=some σ'):B4 P o σ' a w O gv N fp:=by
 simp only [A0y] at hs;split at hs
 case h_2=>cases hs
 rename_i ys σ1 hY;obtain ⟨fp1,fpY,us,o1,rY,nY,dY,s1,hmY,q,cy,hvy,hcy⟩:=A6l h (A9 h hy) hY;have hul:us.length=ys.length*m:=by rw [rY.length,Jk hmY]
 have hfirst : ∀n,n=ys.length->(Builtin.firstCells fi.size n (.slice q n cy)).run P w = .ok us.toArray w:=by rintro n rfl;rw [hsz];exact Afc hul rfl hcy
 have hlenof:(Builtin.lenOf (.slice q ys.length cy)).run P w = .ok ys.length w:=by simp [Builtin.lenOf]
 have hexec : ∀r w',(Builtin.append_ #[t,t] o.type #[a.eval x',a.eval y']).run P w = .ok r w'->(execOp a.eval o).run P w = .ok (.value r) w':=by intro r w' hrun;simp [execOp,ho,resolve,invoke,builtin,hrun]
 split at hs
 ·-- onto a slice of one's own
  rename_i oo m' xs σ2 hX;split at hs
  case isFalse=>cases hs
  rename_i hcond;obtain ⟨rfl,rfl,hcell,hlim⟩:=hcond;cases hs;simp only [LIM] at hlim;obtain ⟨fp2,fpX,o2,rX,nX,dX,s2⟩:=Sk o1 (A9 o1 hx) hX;rcases Ao3 rX with ⟨rfl,hvx,efx⟩ | ⟨b,cap,arr,e',fpk,hvx,hb,hcap,hk,hmX,hf,efx,hO⟩
  ·-- onto nil
   simp only [List.nil_append];by_cases he:ys=[]
   ·subst he;have hus:us=[]:=by simpa using hul
    subst hus;obtain ⟨fp3,o3,s3⟩:=o2.put_own hN (x:= .sl true m' []) (v:= .slice none 0 0) (fpn:=[]) (.leaf (.nils1 m') .nil) (by simp) (by simp);have hf:=hfirst 0 (by simp);simp only [List.length_nil] at hvy hlenof;refine ⟨_,w,O,_,fp3,.inl (hexec (.slice none 0 0) w ?_),by rw [hd];exact o3,(Mv.refl w O _).shrink λq hq=>s1 q (s2 q ((s3 q hq).resolve_right (by simp)))⟩;rw [hvx,hvy];simp [Builtin.append_,run_underlying hu,Go.sizeOf,typeInfo,hi,hlenof,hf]
   obtain ⟨ab,rfl,hcy'⟩:=hcy.resolve_left (λh=>he h.1);have hpos:0<ys.length:=List.length_pos_iff.2 he;have hlim':ys.length<=4294967296:=by simpa using hlim
   have hrun:=run_append_nil (P:=P) w t o.type e fi z hu hi hz ab ys.length cy us (by rw [hul,hsz]) hcy' hpos (by omega) (by
    calc ys.length*fi.bytes<=4294967296*1024:=Nat.mul_le_mul hlim' hby
     _<=281474976710656:=by omega)
   rw [<-hvx,<-hvy] at hrun;have hcapge:=grownCap_ge w ys.length 0 e;have hh:=Hdr.sl true m' ys w.heap.size 0 (grownCap w ys.length 0 e) hmY hcapge;refine Afk (w':=w.drew.alloc (.cells (us.toArray++Builtin.zeroCells z.cells (grownCap w ys.length 0 e-ys.length)) e)) (fpV:=fpY) o2 hd hN (λq hq=>s1 q (s2 q hq)) (λq hq=>⟨(dY q hq).1,λh2=>(dY q hq).2 (s2 q h2)⟩) nY rfl rfl rfl rfl hh ?_ ?_ (hexec _ _ hrun)
   ·simp only [Array.size_append,List.size_toArray,hul,size_zeroCells,hzs,<-Nat.add_mul];exact Nat.mul_le_mul_right _ (by omega)
   have hl1:us.length=(Bo ys).length:=by rw [hul,Jk hmY]
   simp only [Array.toList_append];rw [<-hl1,List.take_left];exact rY
  subst efx;have hbk:=(List.nodup_cons.1 nX).1;have ndk:=(List.nodup_cons.1 nX).2;have hxl:(Bo xs).length=xs.length*m':=Jk hmX;have h1:=Af8 rY hcell;have hflat:(Bo (xs++ys)).length=(xs.length+ys.length)*m':=by rw [L5,List.length_append,hxl,Jk hmY,Nat.add_mul]
  have hmXY : ∀z∈xs++ys,z.cells.length=m':=λz hz=>(List.mem_append.1 hz).elim (hmX z) (hmY z)
  have hXYd : ∀q∈fpk,q∉fpY:=λq hq hq'=>(dY q hq').2 (dX q (by simp [hq])).1
  have hbY:b∉fpY:=λhq=>(dY b hq).2 (dX b (by simp)).1
  have hYfp2 : ∀q∈fpY,¬Sof fp2 q:=λq hq h2=>(dY q hq).2 (s2 q h2)
  by_cases hroom:xs.length+ys.length<=cap
  ·-- in place
   have hfit:xs.length*fi.size+us.length<=arr.size:=by rw [hsz,hul,<-Nat.add_mul];exact Nat.le_trans (Nat.mul_le_mul_right _ hroom) hk
   have hrun:=Ae3 (P:=P) w t o.type e e' fi hu hi b xs.length cap arr hb (.slice q ys.length cy) ys.length us (λ_ _=>trivial) hlenof (hfirst _ rfl) h1 hroom hfit;rw [<-hvx,<-hvy] at hrun
   let arr':Array Value:=(arr.toList.take (xs.length*fi.size)++us++arr.toList.drop (xs.length*fi.size+us.length)).toArray
   have hheap:(w.setRow b arr').heap[b]? = some (.cells arr' e' (0,0)):=setRow_heap w b arr arr' e' (0,0) hb;have hother : ∀q,q≠b->(w.setRow b arr').heap[q]? = w.heap[q]? := λq hq=>setRow_other w b q arr' hq
   have hstill:Li w O (w.setRow b arr') O:=λq hq _=>⟨hother q (λe=>hq (e▸hO)),hq⟩
   have hsz':arr'.size=arr.size:=by simp [arr'];omega
   have frm : ∀ {xs vs f},RdL w O xs vs f->b∉f->RdL (w.setRow b arr') O xs vs f:=λhr hnb=> hr.frame (λq hq=>⟨hother q (λe=>hnb (e▸hq)),(hr.fpO q hq).1⟩) hstill
   have htake:arr'.toList.take (Bo (xs++ys)).length=arr.toList.take (Bo xs).length++us:=by
    have hl1:(arr.toList.take (xs.length*m')++us).length=(Bo (xs++ys)).length:=by rw [hflat,List.length_append,List.length_take,hul,Nat.add_mul];simp;rw [hsz,hul] at hfit;omega
    simp only [arr',hsz,hxl];rw [<-hl1,List.take_left]
   have hread:RdL (w.setRow b arr') O [.sl true m' (xs++ys)] [.slice (some ⟨b,0,none⟩) (xs.length+ys.length) cap] (b::((fpk++fpY)++[])):=by have hh:=Hdr.sl true m' (xs++ys) b 0 cap hmXY (by simpa using hroom);simp only [List.length_append] at hh;refine .oblk hh hheap hO (by omega) ?_ .nil;rw [htake,L5];exact (frm hf hbk).append (frm rY hbY)
   simp only [List.append_nil] at hread;have o3:Ok σ2 a (w.setRow b arr') O gv N vals fp2:=o2.world hstill λq hq=>by
    have hqb:q≠b:=by rintro rfl;exact (dX _ (by simp)).2 hq
    obtain ⟨s,hs⟩:=hq;exact ⟨hother q hqb,(o2.sim.fpO s q hs).1⟩
   obtain ⟨fp3,o4,s4⟩:=o3.put_own hN hread (by
    refine List.nodup_cons.2 ⟨by simp [hbk,hbY],List.nodup_append.2 ⟨ndk,nY,?_⟩⟩;rintro q hq q' hq' rfl;exact hXYd q hq hq') (by
    intro q hq;simp only [List.mem_cons,List.mem_append] at hq;rcases hq with rfl | hq | hq
    ·exact (dX _ (by simp)).2
    ·exact (dX q (by simp [hq])).2
    ·exact hYfp2 q hq)
   refine ⟨_,_,O,_,fp3,.inl (hexec _ _ hrun),by rw [hd];exact o4,⟨rfl,rfl,rfl,by simp [World.setRow],?_,?_⟩⟩
   ·intro q _ hq;exact ⟨hother q (by rintro rfl;exact hq (s1 _ (dX _ (by simp)).1)),.rfl⟩
   intro q hq;left;rcases s4 q hq with h | h
   ·exact s1 q (s2 q h)
   simp only [List.mem_cons,List.mem_append] at h;rcases h with rfl | h | h
   ·exact s1 _ (dX _ (by simp)).1
   ·exact s1 _ (dX q (by simp [h])).1
   exact (dY q h).1
  have holds : ∀j u,(arr.toList.take (Bo xs).length)[j]? = some u->w.cell? ((⟨b,0,none⟩:Addr).add j)=some u:=Adl hb;have hne:ys≠[]:=by rintro rfl;simp at hroom;omega
  obtain ⟨ab,rfl,hcy'⟩:=hcy.resolve_left (λh=>hne h.1);have hlt:(arr.toList.take (Bo xs).length).length=xs.length*fi.size:=by rw [hf.length,hxl,hsz]
  have hrun:=run_append_grow (P:=P) w t o.type e fi z hu hi hz ⟨b,0,none⟩ xs.length cap _ hlt holds ab ys.length cy us (by rw [hul,hsz]) hcy' (by omega) (by omega)
   (growslice_fits (by omega) (by
    calc (xs.length+ys.length)*fi.bytes<=4294967296*1024:=Nat.mul_le_mul hlim hby
     _<=140737488355328:=by omega))
  rw [<-hvx,<-hvy] at hrun;have hcapge:=grownCap_ge w (xs.length+ys.length) cap e;have hh:=Hdr.sl true m' (xs++ys) w.heap.size 0 (grownCap w (xs.length+ys.length) cap e) hmXY (by simpa using hcapge);simp only [List.length_append] at hh;have hlist : ∀zs:Array Value,((arr.toList.take (Bo xs).length).toArray++us.toArray++zs).toList.take (Bo (xs++ys)).length=arr.toList.take (Bo xs).length++us:=by
   intro zs;have hl1:(arr.toList.take (Bo xs).length++us).length=(Bo (xs++ys)).length:=by rw [List.length_append,hlt,hul,hflat,hsz,Nat.add_mul]
   simp only [Array.toList_append,List.append_assoc];rw [<-List.append_assoc,<-hl1,List.take_left]
  refine Afk (w':=w.drew.alloc (.cells ((arr.toList.take (Bo xs).length).toArray++us.toArray++Builtin.zeroCells z.cells (grownCap w (xs.length+ys.length) cap e-(xs.length+ys.length))) e)) (fpV:=fpk++fpY) o2 hd hN (λq hq=>s1 q (s2 q hq)) ?_ (List.nodup_append.2 ⟨ndk,nY,?_⟩) rfl rfl rfl rfl hh ?_ ?_ (hexec _ _ hrun)
  ·intro q hq;rcases List.mem_append.1 hq with hq | hq
   ·exact ⟨s1 _ (dX q (by simp [hq])).1,(dX q (by simp [hq])).2⟩
   exact ⟨(dY q hq).1,hYfp2 q hq⟩
  ·rintro q hq q' hq' rfl;exact hXYd q hq hq'
  ·simp only [Array.size_append,List.size_toArray,hlt,hul,hsz,size_zeroCells,hzs,<-Nat.add_mul];exact Nat.mul_le_mul_right _ (by omega)
  rw [hlist,L5];exact hf.append rY
 cases hs
noncomputable def A47 (d m:Nat) (x y:A) (e:Nat) (σ:St):Option St:=match yS σ m y with
 | some (ys,σ1)=>match x,look σ1 e with
   | .val (.raw tv),.rfv tv' r (c::p)=>match Classical.propDecidable (tv=tv') with
     | .isTrue _=>match look (A4 e .top σ1) r with
       | .val T=>match sub (c::p) T with
         | some (.sl true m' xs)=>match upd (c::p) T .dead with
           | some T0=>match upd (c::p) T0 (.sl false m xs) with
             | some T'=>if m'=m/\Em (Bo ys)=true/\Bl (Bo ys)=false/\Bl (Bo xs)=false/\xs.length+ys.length<=LIM then
               some (A4 d (.val (.sl false m (xs++ys))) (turnP r T' (c::p) (turnP r T0 (c::p) (A4 e .top σ1)))) else none
             | none=>none
           | none=>none
         | _=>none
       | _=>none
     | .isFalse _=>none
   | _,_=>none
 | none=>none
theorem A2e {w O tv v fq} (h:RdL w O [.raw tv] [v] fq):v=tv:=by
 cases h with
 | leaf hl _=>cases hl;rfl
 | grp hg _ _=>cases hg
 | fblk hh _ _ _ _=>cases hh
 | oblk hh _ _ _ _ _=>cases hh
theorem Anq {P:Program} {o:Oper} {a w w' gv N vals} {O O':Nat->Prop} {fp fp2:Nat->List Nat} {σ2:St} {d m r c:Nat} {p:List Nat} {T0 T':V} {xs zs:List V} {tv rv:Value}
  (o2:Ok σ2 a w O gv N vals fp2) (hd:o.dst=some d) (hN:d<N) (hs : ∀b,Sof fp2 b->Sof fp b) (hL:look σ2 r = .val T0) (hsub:sub (c::p) T0=some .dead) (hx:C0 w (c::p) (vals r)=some tv)
  (hT':upd (c::p) T0 (.sl false m xs)=some T') (hos:w'.os=w.os) (htape:w'.tape=w.tape) (hout:w'.output=w.output) (hsize:w.heap.size<=w'.heap.size)
  (hstill:Li w O w' O') (hown : ∀b,Sof fp2 b->w'.heap[b]? = w.heap[b]? /\ O' b) (hsame : ∀b,b<w.heap.size->¬Sof fp b->w'.heap[b]? = w.heap[b]? /\ (O' b↔O b))
  (rOld:RdL w' O' [.sl false m xs] [tv] []) (rNew:RdL w' O' [.sl false m zs] [rv] []) (hrun:(execOp a.eval o).run P w = .ok (.value rv) w') :
  B4 P o (A4 d (.val (.sl false m zs)) (turnP r T' (c::p) σ2)) a w O gv N fp:=by
 have o3:Ok σ2 a w' O' gv N vals fp2:=o2.world hstill hown;have hx':C0 w' (c::p) (vals r)=some tv:=by rw [Lb (c::p) (o2.sim.own r T0 hL) hsub λb hb=>(hown b ⟨r,hb⟩).1];exact hx
 obtain ⟨fp4,o4,s4⟩:=Ant o3 hL hsub rfl hx' rOld (by simp) (by simp) hT';obtain ⟨fp5,o5,s5⟩:=o4.put_own hN rNew (by simp) (by simp);refine ⟨rv,w',O',_,fp5,.inl hrun,by rw [hd];exact o5,⟨hos,htape,hout,hsize,hsame,?_⟩⟩;intro b hb;rcases s5 b hb with h1 | h1
 ·rcases s4 b h1 with h2 | h2
  ·exact .inl (hs b h2)
  cases h2
 cases h1
theorem A73 {P:Program} {o:Oper} {σ σ' a w O gv N vals fp} {d m:Nat} {t e x x' y y'} {ef:Nat} {fi:TypeInfo} {z:Value} (h:Ok σ a w O gv N vals fp)
  (ho:o.op = .call { callee:= .builtin .append,args := #[x',y'],argTypes := #[t,t] }) (hd:o.dst=some d) (hN:d<N) (hx:Be N x x'=true) (hy:Be N y y'=true)
  (hu:P.underlying t=some (.slice e)) (hi:P.info? e=some fi) (hsz:fi.size=m) (hz:fi.zero=some z) (hzs:z.cells.size=m) (hby:fi.bytes<=1024)
  (hs:A47 d m (Am σ x) (Am σ y) ef σ=some σ'):B4 P o σ' a w O gv N fp:=by
 unfold A47 at hs;split at hs
 case h_2=>cases hs
 rename_i ys σ1 hY;split at hs
 case h_2=>cases hs
 rename_i tv tv' r c p hX hE;split at hs
 case h_2=>cases hs
 rename_i etv _;subst etv;split at hs
 case h_2=>cases hs
 rename_i T hT;split at hs
 case h_2=>cases hs
 rename_i m' xs hsub;split at hs
 case h_2=>cases hs
 rename_i T0 hT0;split at hs
 case h_2=>cases hs
 rename_i T' hT';split at hs
 case isFalse=>cases hs
 rename_i hcond;obtain ⟨rfl,hcell,hyo,hxo,hlim⟩:=hcond;cases hs;simp only [LIM] at hlim;obtain ⟨fp1,fpY,us,o1,rY,nY,dY,s1,hmY,q,cy,hvy,hcy⟩:=A6l h (A9 h hy) hY;have e0:fpY=[]:=rY.noOwn hyo;subst e0;have hul:us.length=ys.length*m':=by rw [rY.length,Jk hmY]
 have hfirst : ∀n,n=ys.length->(Builtin.firstCells fi.size n (.slice q n cy)).run P w = .ok us.toArray w:=by rintro n rfl;rw [hsz];exact Afc hul rfl hcy
 have hlenof:(Builtin.lenOf (.slice q ys.length cy)).run P w = .ok ys.length w:=by simp [Builtin.lenOf]
 have hexec : ∀r w',(Builtin.append_ #[t,t] o.type #[a.eval x',a.eval y']).run P w = .ok r w'->(execOp a.eval o).run P w = .ok (.value r) w':=by intro r w' hrun;simp [execOp,ho,resolve,invoke,builtin,hrun]
 have hvx:a.eval x'=tv:=by
  have hr:=A9 h hx;rw [hX] at hr;cases hr with
  | val _ hr _=>exact A2e hr
 have hv:C0 w (c::p) (vals r)=some tv:=by
  have hr:=o1.sim.rel ef (by simp [hE]);rw [hE] at hr;cases hr with
  | rfv _ _ hv _=>exact hv
 obtain ⟨fp0,o0,s0⟩:=Zx (s:=ef) o1 (x:= .top) (.top .nil);obtain ⟨fp2,fpX,o2,rX,nX,dX,s2⟩:=Ak0 o0 hT hsub hv (.leaf (.dead _) .nil) hT0;have hL2:look (turnP r T0 (c::p) (A4 ef .top σ1)) r = .val T0:=by rw [Ka hT];simp
 have hsub2:=G9 (c::p) hsub hT0;have hs2 : ∀b,Sof fp2 b->Sof fp b:=λb hb=>s1 b (s0 b (s2 b hb))
 have hfit2 : ∀b,Sof fp2 b->O b/\b<w.heap.size:=λb ⟨s,hs⟩=>o2.sim.fpO s b hs
 rcases Ao3 rX with ⟨rfl,rfl,efx⟩ | ⟨b,cap,arr,e',fpk,hvt,hb,hcap,hk,hmX,hf,efx,hO⟩
 ·-- onto nil
  by_cases he:ys=[]
  ·subst he;have hus:us=[]:=by simpa using hul
   subst hus;have hf:=hfirst 0 (by simp);simp only [List.length_nil] at hvy hlenof;refine Anq (rv:= .slice none 0 0) (w':=w) (O':=O) o2 hd hN hs2 hL2 hsub2 hv hT' rfl rfl rfl (Nat.le_refl _) (λq hq _=>⟨rfl,hq⟩) (λb hb=>⟨rfl,(hfit2 b hb).1⟩) (λ_ _ _=>⟨rfl,.rfl⟩)
    (.leaf (.nils _) .nil) (.leaf (.nils _) .nil) (hexec _ _ ?_)
   rw [hvx,hvy];simp [Builtin.append_,run_underlying hu,Go.sizeOf,typeInfo,hi,hlenof,hf]
  obtain ⟨ab,rfl,hcy'⟩:=hcy.resolve_left (λh=>he h.1);have hpos:0<ys.length:=List.length_pos_iff.2 he;have hlim':ys.length<=4294967296:=by simpa using hlim
  have hrun:=run_append_nil (P:=P) w t o.type e fi z hu hi hz ab ys.length cy us (by rw [hul,hsz]) hcy' hpos (by omega) (by
   calc ys.length*fi.bytes<=4294967296*1024:=Nat.mul_le_mul hlim' hby
    _<=281474976710656:=by omega)
  rw [<-hvx,<-hvy] at hrun;have hcapge:=grownCap_ge w ys.length 0 e;have hh:=Hdr.sl false m' ys w.heap.size 0 (grownCap w ys.length 0 e) hmY hcapge
  let arr':Array Value:=us.toArray++Builtin.zeroCells z.cells (grownCap w ys.length 0 e-ys.length)
  let w':World:=w.drew.alloc (.cells arr' e)
  have hwh:w'.heap=w.heap.push (.cells arr' e):=rfl;have hold : ∀q,q<w.heap.size->w'.heap[q]? = w.heap[q]? := λq hq=>by rw [hwh];exact Re w _ q hq
  have hst:Li w O w' (λq=>O q/\q≠w.heap.size):=λq hq hlt=>⟨hold q hlt,λhh=>hq hh.1⟩
  have hblk:w'.heap[w.heap.size]? = some (.cells arr' e (0,0)):=by rw [hwh];simp
  refine Anq (rv:= .slice (some ⟨w.heap.size,0,none⟩) ys.length (grownCap w ys.length 0 e)) (w':=w') (O':=λq=>O q/\q≠w.heap.size) o2 hd hN hs2 hL2 hsub2 hv hT' rfl rfl rfl (by rw [hwh];simp) hst
   (λq hq=>⟨hold q (hfit2 q hq).2,(hfit2 q hq).1,Nat.ne_of_lt (hfit2 q hq).2⟩) (λq hq _=>⟨hold q hq,λhh=>hh.1,λhh=>⟨hh,by omega⟩⟩) (.leaf (.nils _) .nil) ?_ (hexec _ _ hrun)
  refine .fblk hh ?_ ⟨.inr λhh=>hh.2 rfl,hyo⟩ (rY.frame (by simp) hst) .nil;intro i hi';simp only [World.cell?,hblk,Nat.zero_add];rw [<-Array.getElem?_toList];simp only [arr',Array.toList_append];rw [List.getElem?_append_left (by simpa using hi')];simp
 have hbk:fpk=[]:=hf.noOwn hxo;subst hbk;subst efx;have hxl:(Bo xs).length=xs.length*m':=Jk hmX;have h1:=Af8 rY hcell;have hflat:(Bo (xs++ys)).length=(xs.length+ys.length)*m':=by rw [L5,List.length_append,hxl,Jk hmY,Nat.add_mul]
 have hmXY : ∀z∈xs++ys,z.cells.length=m':=λz hz=>(List.mem_append.1 hz).elim (hmX z) (hmY z)
 have hb2:¬Sof fp2 b:=(dX b (by simp)).2;have hbS:Sof fp b:=s1 b (s0 b (dX b (by simp)).1);have hblt:b<w.heap.size:=Aar hb;have hcell0 : ∀i,i<(arr.toList.take (Bo xs).length).length->w.cell? ⟨b,0+i,none⟩=(arr.toList.take (Bo xs).length)[i]? := by intro i hi';simp [World.cell?,hb];simp at hi';rw [List.getElem?_take,if_pos (by omega),Array.getElem?_toList]
 have hxyo:Bl (Bo (xs++ys))=false:=by rw [L5,He,hxo,hyo];rfl
 by_cases hroom:xs.length+ys.length<=cap
 ·-- in place
  have hfit:xs.length*fi.size+us.length<=arr.size:=by rw [hsz,hul,<-Nat.add_mul];exact Nat.le_trans (Nat.mul_le_mul_right _ hroom) hk
  have hrun:=Ae3 (P:=P) w t o.type e e' fi hu hi b xs.length cap arr hb (.slice q ys.length cy) ys.length us (λ_ _=>trivial) hlenof (hfirst _ rfl) h1 hroom hfit;rw [<-hvt,<-hvx,<-hvy] at hrun
  let arr':Array Value:=(arr.toList.take (xs.length*fi.size)++us++arr.toList.drop (xs.length*fi.size+us.length)).toArray
  have hheap:(w.setRow b arr').heap[b]? = some (.cells arr' e' (0,0)):=setRow_heap w b arr arr' e' (0,0) hb;have hother : ∀q,q≠b->(w.setRow b arr').heap[q]? = w.heap[q]? := λq hq=>setRow_other w b q arr' hq
  have hst:Li w O (w.setRow b arr') (λq=>O q/\q≠b):=λq hq _=>⟨hother q (λe=>hq (e▸hO)),λhh=>hq hh.1⟩
  have harr : ∀i,i<(Bo xs).length->arr'[i]? = arr[i]? := by intro i hi';simp only [arr',List.getElem?_toArray,List.append_assoc];have hle:xs.length*m'<=arr.size:=Nat.le_trans (Nat.mul_le_mul_right m' hcap) hk;rw [List.getElem?_append_left (by rw [List.length_take,hsz,show arr.toList.length=arr.size from Array.length_toList];omega),List.getElem?_take,if_pos (by rw [hsz];omega),Array.getElem?_toList]
  have htake : ∀i,i<(arr.toList.take (Bo xs).length++us).length->arr'[i]? = (arr.toList.take (Bo xs).length++us)[i]? := by intro i hi';simp only [arr',List.getElem?_toArray];rw [show xs.length*fi.size=(Bo xs).length from by rw [hsz,hxl]];rw [List.getElem?_append_left hi']
  have rold : ∀ {us' fs},RdL w O (Bo xs) us' fs->fs=[]->RdL (w.setRow b arr') (λq=>O q/\q≠b) (Bo xs) us' []:=λhr e=>by subst e;exact hr.frame (by simp) hst
  refine Anq (w':=w.setRow b arr') (O':=λq=>O q/\q≠b) o2 hd hN hs2 hL2 hsub2 hv hT' rfl rfl rfl (by simp [World.setRow]) hst ?_ ?_ ?_ ?_ (hexec _ _ hrun)
  ·intro q hq;have hqb:q≠b:=by rintro rfl;exact hb2 hq
   exact ⟨hother q hqb,(hfit2 q hq).1,hqb⟩
  ·intro q _ hq;have hqb:q≠b:=by rintro rfl;exact hq hbS
   exact ⟨hother q hqb,λhh=>hh.1,λhh=>⟨hh,hqb⟩⟩
  ·rw [hvt];refine .fblk (.sl false m' xs b 0 cap hmX hcap) ?_ ⟨.inr λhh=>hh.2 rfl,hxo⟩ (rold hf rfl) .nil;intro i hi';rw [<-hcell0 i hi'];have hi2:i<(Bo xs).length:=by rw [List.length_take] at hi';omega
   simp only [World.cell?,hheap,hb,Nat.zero_add];exact harr i hi2
  have hh:=Hdr.sl false m' (xs++ys) b 0 cap hmXY (by simpa using hroom);simp only [List.length_append] at hh;refine .fblk hh (vch:=arr.toList.take (Bo xs).length++us) ?_ ⟨.inr λhh=>hh.2 rfl,hxyo⟩ ?_ .nil
  ·intro i hi';simp only [World.cell?,hheap,Nat.zero_add];exact htake i hi'
  rw [L5];simpa using (rold hf rfl).append (rY.frame (by simp) hst)
 have holds : ∀j u,(arr.toList.take (Bo xs).length)[j]? = some u->w.cell? ((⟨b,0,none⟩:Addr).add j)=some u:=Adl hb;have hne:ys≠[]:=by rintro rfl;simp at hroom;omega
 obtain ⟨ab,rfl,hcy'⟩:=hcy.resolve_left (λh=>hne h.1);have hlt:(arr.toList.take (Bo xs).length).length=xs.length*fi.size:=by rw [hf.length,hxl,hsz]
 have hrun:=run_append_grow (P:=P) w t o.type e fi z hu hi hz ⟨b,0,none⟩ xs.length cap _ hlt holds ab ys.length cy us (by rw [hul,hsz]) hcy' (by omega) (by omega)
  (growslice_fits (by omega) (by
   calc (xs.length+ys.length)*fi.bytes<=4294967296*1024:=Nat.mul_le_mul hlim hby
    _<=140737488355328:=by omega))
 rw [<-hvt,<-hvx,<-hvy] at hrun;have hcapge:=grownCap_ge w (xs.length+ys.length) cap e
 let arr':Array Value:=(arr.toList.take (Bo xs).length).toArray++us.toArray++Builtin.zeroCells z.cells (grownCap w (xs.length+ys.length) cap e-(xs.length+ys.length))
 let w':World:=w.drew.alloc (.cells arr' e)
 have hwh:w'.heap=w.heap.push (.cells arr' e):=rfl;have hold : ∀q,q<w.heap.size->w'.heap[q]? = w.heap[q]? := λq hq=>by rw [hwh];exact Re w _ q hq
 have hst:Li w O w' (λq=>O q/\q≠b/\q≠w.heap.size):=λq hq hlt=>⟨hold q hlt,λhh=>hq hh.1⟩
 have hblk:w'.heap[w.heap.size]? = some (.cells arr' e (0,0)):=by rw [hwh];simp
 have rold : ∀ {us' fs},RdL w O (Bo xs) us' fs->fs=[]->RdL w' (λq=>O q/\q≠b/\q≠w.heap.size) (Bo xs) us' []:=λhr e=>by subst e;exact hr.frame (by simp) hst
 refine Anq (w':=w') (O':=λq=>O q/\q≠b/\q≠w.heap.size) o2 hd hN hs2 hL2 hsub2 hv hT' rfl rfl rfl (by rw [hwh];simp) hst ?_ ?_ ?_ ?_ (hexec _ _ hrun)
 ·intro q hq;have hqb:q≠b:=by rintro rfl;exact hb2 hq
  exact ⟨hold q (hfit2 q hq).2,(hfit2 q hq).1,hqb,Nat.ne_of_lt (hfit2 q hq).2⟩
 ·intro q hlt' hq;have hqb:q≠b:=by rintro rfl;exact hq hbS
  exact ⟨hold q hlt',λhh=>hh.1,λhh=>⟨hh,hqb,by omega⟩⟩
 ·rw [hvt];refine .fblk (.sl false m' xs b 0 cap hmX hcap) ?_ ⟨.inr λhh=>hh.2.1 rfl,hxo⟩ (rold hf rfl) .nil;intro i hi';rw [Aj6 (hold b hblt)];exact hcell0 i hi'
 have hh:=Hdr.sl false m' (xs++ys) w.heap.size 0 (grownCap w (xs.length+ys.length) cap e) hmXY (by simpa using hcapge);simp only [List.length_append] at hh;refine .fblk hh (vch:=arr.toList.take (Bo xs).length++us) ?_ ⟨.inr λhh=>hh.2.2 rfl,hxyo⟩ ?_ .nil
 ·intro i hi';simp only [World.cell?,hblk,Nat.zero_add];rw [<-Array.getElem?_toList];simp only [arr',Array.toList_append];rw [List.getElem?_append_left hi'];simp
 rw [L5];simpa using (rold hf rfl).append (rY.frame (by simp) hst)
end Go.Proofs.Ytaalgpkajkogkaa.Ax
namespace Go.Proofs.Ytaalgpkajkogkaa.Ax
open Go
theorem RelL.append {w O L vals as vs bs us} (h:RelL w O L vals as vs) (k:RelL w O L vals bs us):RelL w O L vals (as++bs) (vs++us):=by
 induction h with
 | nil=>exact k
 | top _ ih=>exact .top ih
 | val a b _ ih=>exact .val a b ih
 | ref a b c _ ih=>exact .ref a b c ih
 | rfv a b c _ ih=>exact .rfv a b c ih
 | addr a b c d e _ ih=>exact .addr a b c d e ih
 | fad a b c _ ih=>exact .fad a b c ih
 | agg s _ _ ih=>exact .agg s ih
 | clo s _ _ ih=>exact .clo s ih
theorem RelL.uncons {w O L vals x as v vs} (h:RelL w O L vals (x::as) (v::vs)):RelL w O L vals [x] [v]/\RelL w O L vals as vs:=by
 cases h with
 | top t=>exact ⟨.top .nil,t⟩
 | val a b t=>exact ⟨.val a b .nil,t⟩
 | ref a b c t=>exact ⟨.ref a b c .nil,t⟩
 | rfv a b c t=>exact ⟨.rfv a b c .nil,t⟩
 | addr a b c d e t=>exact ⟨.addr a b c d e .nil,t⟩
 | fad a b c t=>exact ⟨.fad a b c .nil,t⟩
 | agg s t=>exact ⟨.agg s .nil,t⟩
 | clo s t=>exact ⟨.clo s .nil,t⟩
theorem RelL.split {w O L vals} : ∀ {as bs:List A} {vs:List Value},RelL w O L vals (as++bs) vs -> ∃us ws,vs=us++ws/\RelL w O L vals as us/\RelL w O L vals bs ws:=by
 intro as
 induction as with
 | nil=>intro bs vs h;exact ⟨[],vs,rfl,.nil,h⟩
 | cons a r ih=>
   intro bs vs h;have hl:=h.length
   match vs,hl with
   | v::vs,_=> obtain ⟨h1,h2⟩:=h.uncons;obtain ⟨us,ws,e,h3,h4⟩:=ih h2;subst e;exact ⟨v::us,ws,rfl,by simpa using h1.append h3,h4⟩
theorem RelL.takeDrop {w O L vals} : ∀(n:Nat) {as vs},RelL w O L vals as vs->RelL w O L vals (as.take n) (vs.take n)/\RelL w O L vals (as.drop n) (vs.drop n):=by
 intro n
 induction n with
 | zero=>intro as vs h;exact ⟨by simpa using .nil,by simpa using h⟩
 | succ n ih=>
   intro as vs h;have hl:=h.length;cases as with
   | nil=>cases vs with
     | nil=>exact ⟨by simpa using .nil,by simpa using .nil⟩
     | cons _ _=>simp at hl
   | cons x r=>cases vs with
     | nil=>simp at hl
     | cons v vs=> obtain ⟨h1,h2⟩:=h.uncons;obtain ⟨a,b⟩:=ih h2;exact ⟨by simpa using h1.cons_join a,by simpa using b⟩
theorem RelL.splice {w O L vals as vs bs us} (h:RelL w O L vals as vs) (k:RelL w O L vals bs us) (c:Nat):RelL w O L vals (Ax.splice as c bs) (Ax.splice vs c us):=by unfold Ax.splice;rw [k.length];exact (h.takeDrop c).1.append (k.append (h.takeDrop (c+bs.length)).2)
def P2 (σ:St):A->Option (List A)
 | .agg as=>some as
 | .val (.agg cs)=>some (cs.map .val)
 | .val v=>if v.isCell then some [.val v] else none
 | .ref r p=>match Cd σ r p with
   | some (.agg cs)=>some (Wj r p 0 cs)
   | some u=>if u.isCell then some [.ref r p] else none
   | none=>none
 | .clo f as=>some [.clo f as]
 | .addr r p c=>some [.addr r p c]
 | .rfv _ _ _=>none
 | .fad cs=>some [.fad cs]
 | .top=>none
theorem Ads {w O L vals} : ∀ {cs us},RdL w O cs us []->Bl cs=false->RelL w O L vals (cs.map .val) us:=by
 intro cs
 induction cs with
 | nil=>intro us h _;cases h;exact .nil
 | cons c r ih=> intro us h hn;simp [Bl] at hn;obtain ⟨u,us2,f1,f2,rfl,hf,h1,h2⟩:=h.cons_split;obtain ⟨rfl,rfl⟩:=List.append_eq_nil_iff.1 hf.symm;exact .val hn.1 h1 (ih h2 hn.2)
theorem Ayj {σ a w O gv N vals fp} (h:Ok σ a w O gv N vals fp) {x v as} (hr:RelL w O (look σ) vals [x] [v]) (hc:P2 σ x=some as) :
  ∃us,v.cells=us.toArray/\RelL w O (look σ) vals as us:=by
 cases hr with
 | top _=>simp [P2] at hc
 | rfv _ _ _ _=>simp [P2] at hc
 | agg s t=>cases t;simp [P2] at hc;subst hc;exact ⟨_,rfl,s⟩
 | clo s t=>cases t;simp [P2] at hc;subst hc;exact ⟨[_],rfl,.clo s .nil⟩
 | addr a b c d e t=>simp [P2] at hc;subst hc;exact ⟨[_],rfl,.addr a b c d e .nil⟩
 | fad a b c t=>simp [P2] at hc;subst hc;exact ⟨[_],rfl,.fad a b c .nil⟩
 | @val y v _ _ hn hr t=>
   by_cases ha : ∃cs,y = .agg cs
   ·obtain ⟨cs,rfl⟩:=ha;simp [P2] at hc;subst hc;obtain ⟨us,rfl,hus⟩:=Aul hr;exact ⟨us,rfl,Ads hus (by simpa [V.hasOwn] using hn)⟩
   ·have:y.isCell=true/\as=[.val y]:=by
     cases y<;>simp_all [P2]
    obtain ⟨h1,rfl⟩:=this;exact ⟨[v],(Ans hr h1).2,.val hn hr .nil⟩
 | @ref r p T u v _ _ hL hs hv t=>
   simp only [P2,Cd,hL,hs] at hc;obtain ⟨z,f1,fu,f2,_,hz,hru,_⟩:=ctx p (h.sim.own r T hL) hs;rw [hv] at hz;cases hz;by_cases ha : ∃cs,u = .agg cs
   ·obtain ⟨cs,rfl⟩:=ha;simp at hc;subst hc;obtain ⟨us,e,hus⟩:=Aul hru;obtain ⟨us',h1,h2,h3⟩:=Ado h hL hs rfl hv cs 0 (by intro j hj;simp [V.kids]);have:us'=us:=by
     apply List.ext_getElem?;intro j;by_cases hj:j<us'.length
     ·rw [<-h2 j hj,e];simp [Hk]
     ·rw [List.getElem?_eq_none (by omega),List.getElem?_eq_none (by rw [hus.length,<-h1];omega)]
    subst this;exact ⟨us',by rw [e];rfl,h3⟩
   ·have:u.isCell=true/\as=[.ref r p]:=by
     cases u<;>simp_all
    obtain ⟨h1,rfl⟩:=this;exact ⟨[_],(Ans hru h1).2,.ref hL hs hv .nil⟩
def Aib (σ:St):List A->List (Nat×Nat×X)->Option (List A)
 | cells,[]=>some cells
 | cells,(off,size,x)::r=>match P2 σ (Am σ x) with
   | some as=>if as.length=size/\off+size<=cells.length then Aib σ (splice cells off as) r else none
   | none=>none
def A5b (d:Nat) (z:List V) (ps:List (Nat×Nat×X)) (σ:St):Option St:=match Aib σ (z.map .val) ps with
 | some as=>some (A4 d (upA (mkA true as)) σ)
 | none=>none
def Af5 (N:Nat) (place:Nat->Option (Nat×Nat)):List (Nat×Nat×X)->List (Nat×Operand)->Bool
 | [],[]=>true
 | (off,size,x)::r,(i,o)::s=>place i==some (off,size)&&Be N x o&&Af5 N place r s
 | _,_=>false
theorem A32 {σ a w O gv N vals fp} (h:Ok σ a w O gv N vals fp) {place:Nat->Option (Nat×Nat)} : ∀ {ps:List (Nat×Nat×X)} {os:List (Nat×Operand)} {cells as:List A} {arr:Array Value},
  RelL w O (look σ) vals cells arr.toList->Af5 N place ps os=true->Aib σ cells ps=some as ->
  ∃arr',Instr.fill place arr (os.map λx=>(x.1,a.eval x.2))=some arr'/\RelL w O (look σ) vals as arr'.toList:=by
 intro ps
 induction ps with
 | nil=>intro os cells as arr hr hf hg;cases os<;>simp [Af5] at hf;simp [Aib] at hg;subst hg;exact ⟨arr,rfl,hr⟩
 | cons p r ih=>
   intro os cells as arr hr hf hg;obtain ⟨off,size,x⟩:=p;cases os with
   | nil=>simp [Af5] at hf
   | cons q s=>
     obtain ⟨i,o⟩:=q;simp only [Af5,Bool.and_eq_true,beq_iff_eq] at hf;simp only [Aib] at hg;split at hg
     case h_2=>cases hg
     rename_i bs hbs;split at hg
     case isFalse=>cases hg
     rename_i hb;obtain ⟨us,hus,rus⟩:=Ayj h (A9 h hf.1.2) hbs;have hl:=hr.length;have hul:=rus.length;simp at hl;obtain ⟨arr1,h1,h2,h3⟩:=Art (place:=place) (cells:=arr) (i:=i) (v:=a.eval o) (rest:=s.map λx=>(x.1,a.eval x.2)) hf.1.1 (by rw [hus];simp;omega) (by omega);obtain ⟨arr',h4,h5⟩:=ih (arr:=arr1) (by rw [h2,hus];simpa using hr.splice rus off) hf.2 hg;exact ⟨arr',by rw [List.map_cons,h1,h4],h5⟩
def Ap9 (P:Program) (t:TypeId):Option (Nat->Option (Nat×Nat)):=match P.underlying t with
 | some (.array _ e)=>match P.info? e with
   | some ie=>some λi=>some (i*ie.size,ie.size)
   | none=>none
 | some (.struct fields)=>match fields.toList.mapM (λf=>(P.info? f.type).map λi=>(f.offset,i.size)) with
   | some places=>some (places.toArray[·]?)
   | none=>none
 | _=>none
theorem A7j {P:Program} {o:Oper} {σ σ' a w O gv N vals fp} {d:Nat} {t z ps} {parts:Array (Nat×Operand)} {place} {fi:TypeInfo} {zv:Value} (h:Ok σ a w O gv N vals fp)
  (ho:o.op = .build t parts) (hd:o.dst=some d) (hN:d<N) (hp:Ap9 P t=some place) (hf:Af5 N place ps parts.toList=true) (hi:P.info? t=some fi) (hz:fi.zero=some zv)
  (hc:Awx z zv.cells.toList=true) (hs:A5b d z ps σ=some σ'):B4 P o σ' a w O gv N fp:=by
 simp only [A5b] at hs;split at hs
 case h_2=>cases hs
 rename_i as has;cases hs;obtain ⟨rz,nz⟩:=Aup w O z zv.cells.toList hc;obtain ⟨arr,h1,h2⟩:=A32 h (arr:=zv.cells) (Ads rz nz) hf has;have hb:P.built t (parts.map λ(x:Nat×Operand)=>(x.1,a.eval x.2)).toList=some arr:=by
  rw [Array.toList_map];unfold Program.built;unfold Ap9 at hp;rw [hi];split at hp
  ·rename_i e hu;rw [hu];split at hp
   ·rename_i ie hie;cases hp;simp only [hz,hie];exact h1
   ·cases hp
  ·rename_i fields hu;rw [hu];split at hp
   ·rename_i places hpl;cases hp;simp only [hz,hpl];exact h1
   ·cases hp
  ·cases hp
 have hrun:=run_build (P:=P) w t _ arr hb;have:=Azi (ag:=true) h2 (by simp);simp at this;exact .up h hd hN this (by simp [execOp,ho,hrun])
def Alg (s:ByteArray) (j:Int):Int:=((s.data.getD j.toNat 0).toNat:Int)
def Az3 (d:Nat) (x i:A) (σ:St):Option St:=match x,i with
 | .val (.str s),.val (.int _ j)=>if 0<=j/\j<s.size then some (A4 d (.val (.int .u8 (Alg s j))) σ) else none
 | _,_=>none
theorem A6e {P:Program} {o:Oper} {σ σ' a w O gv N vals fp} {d:Nat} {t i i' x x'} (h:Ok σ a w O gv N vals fp) (ho:o.op = .index t x' i') (hd:o.dst=some d) (hN:d<N)
  (hx:Be N x x'=true) (hii:Be N i i'=true) (hu:P.underlying t=some .string) (hs:Az3 d (Am σ x) (Am σ i) σ=some σ'):B4 P o σ' a w O gv N fp:=by
 simp only [Az3] at hs;split at hs
 case h_2=>cases hs
 rename_i s k j hxs hj;split at hs
 case isFalse=>cases hs
 rename_i hb;cases hs;have hri:=A9 h hii;rw [hj] at hri;have hiv:a.eval i' = .int k j:=by cases hri with | val _ hr _=>exact Cr hr
 have hrx:=A9 h hx;rw [hxs] at hrx;have hxv:a.eval x' = .string s:=by cases hrx with | val _ hr _=>exact Lg hr
 refine .rel h hd hN (.val rfl (.leaf (.int _ _) .nil) .nil) ?_;have hlt:j.toNat<s.size:=by omega
 have e:s[j.toNat]? = some (s.data.getD j.toNat 0):=by have h1:j.toNat<s.data.size:=hlt;rw [getElem?_pos s j.toNat hlt];simp only [Array.getD];rw [dif_pos h1];rfl
 simp [execOp,ho,hxv,hiv,Instr.index,asIntOf,run_underlying hu,hb.1,e,Alg]
def A45 (d:Nat) (x:A) (σ:St):Option St:=match Ji σ x with
 | some _=>some (A4 d x σ)
 | none=>none
theorem A62 {P:Program} {o:Oper} {σ σ' a w O gv N vals fp} {d:Nat} {x x'} (h:Ok σ a w O gv N vals fp) (ho:o.op = .nilCheck x') (hd:o.dst=some d) (hN:d<N)
  (hx:Be N x x'=true) (hs:A45 d (Am σ x) σ=some σ'):B4 P o σ' a w O gv N fp:=by
 simp only [A45] at hs;split at hs
 case h_2=>cases hs
 rename_i l hl;cases hs;have hr:=A9 h hx;obtain ⟨b,c,hv,_⟩:=Aac 0 (Q8 h hr hl);exact .rel h hd hN hr (by simp [execOp,ho,hv])
def A5d (f:Nat) (as:List A):A:=match Kw as with
 | some vs=> .val (.clo f vs)
 | none=> .clo f as
theorem A7r {P:Program} {o:Oper} {σ a w O gv N vals fp} {d f:Nat} {cs:List X} {cs':Array Operand} (h:Ok σ a w O gv N vals fp) (ho:o.op = .makeFunc (.func f) #[] cs') (hd:o.dst=some d) (hN:d<N)
  (hx:Q7 N cs cs'.toList=true):B4 P o (A4 d (A5d f (cs.map (Am σ))) σ) a w O gv N fp:=by
 have hr:=Agx h hx;have hrun:(execOp a.eval o).run P w = .ok (.value (.func (.func f) #[] (cs'.toList.map a.eval).toArray)) w:=by simp [execOp,ho,Instr.makeFunc];rw [<-Array.toList_map]
 refine .rel h hd hN ?_ hrun;unfold A5d;split
 ·rename_i vs hv;obtain ⟨h2,h3⟩:=Asl hr hv;exact .val (by simpa [V.hasOwn] using h3) (by simpa using RdL.grp (.clo f vs _) h2 .nil) .nil
 exact .clo hr .nil
end Go.Proofs.Ytaalgpkajkogkaa.Ax
namespace Go.Proofs.Ytaalgpkajkogkaa.Ax
open Go
theorem A0w {m:Nat} : ∀(l:Nat) {xs:List V},(∀x∈xs,x.cells.length=m)->Bo (xs.drop l)=(Bo xs).drop (l*m):=by
 intro l
 induction l with
 | zero=>intro xs _;simp
 | succ l ih=>
   intro xs h;cases xs with
   | nil=>simp [Bo]
   | cons x r=> have hx:=h x (by simp);rw [List.drop_succ_cons,ih λy hy=>h y (by simp [hy])];simp only [Bo];rw [Nat.succ_mul,Nat.add_comm,<-List.drop_drop,<-hx,List.drop_left]
theorem A0g {m:Nat} : ∀(l:Nat) {xs:List V},(∀x∈xs,x.cells.length=m)->Bo (xs.take l)=(Bo xs).take (l*m):=by
 intro l
 induction l with
 | zero=>intro xs _;simp [Bo]
 | succ l ih=>
   intro xs h;cases xs with
   | nil=>simp [Bo]
   | cons x r=> have hx:=h x (by simp);rw [List.take_succ_cons];simp only [Bo];have e1:List.take (l*m+m) x.cells=x.cells:=List.take_of_length_le (by rw [hx];exact Nat.le_add_left _ _);rw [ih λy hy=>h y (by simp [hy]),Nat.succ_mul,List.take_append,hx,Nat.add_sub_cancel,e1]
theorem Axg {xs:List V} (h:Bl xs=false) (a b:Nat):Bl ((xs.drop a).take b)=false:=by
 have h1:Bl (xs.drop a)=false:=by rw [<-List.take_append_drop a xs,He] at h;simp only [Bool.or_eq_false_iff] at h;exact h.2
 rw [<-List.take_append_drop b (xs.drop a),He] at h1;simp only [Bool.or_eq_false_iff] at h1;exact h1.1
theorem A5g {w O xs vs} (h:RdL w O xs vs []) (n:Nat):RdL w O (xs.drop n) (vs.drop n) []:=by
 have h':=h;rw [<-List.take_append_drop n xs] at h';obtain ⟨v1,v2,f1,f2,e1,e2,r1,r2⟩:=RdL.split _ h';have l1:=r1.length;have l0:=h.length;have ef:=List.append_eq_nil_iff.1 e2.symm;rw [ef.2] at r2;have:v2=vs.drop n:=by
  by_cases hn:n<=xs.length
  ·have hl:v1.length=n:=by rw [l1,List.length_take];omega
   rw [e1,<-hl,List.drop_left]
  ·have hd:xs.drop n=[]:=List.drop_eq_nil_of_le (by omega);have l2:=r2.length;rw [hd] at l2;rw [List.drop_eq_nil_of_le (by omega)];exact List.length_eq_zero_iff.1 l2
 rw [<-this];exact r2
theorem A6f {w O xs vs} (h:RdL w O xs vs []) (n:Nat):RdL w O (xs.take n) (vs.take n) []:=by
 have h':=h;rw [<-List.take_append_drop n xs] at h';obtain ⟨v1,v2,f1,f2,e1,e2,r1,r2⟩:=RdL.split _ h';have l1:=r1.length;have l0:=h.length;have l2:=r2.length;have ef:=List.append_eq_nil_iff.1 e2.symm;rw [ef.1] at r1;have:v1=vs.take n:=by
  by_cases hn:n<=xs.length
  ·have hl:v1.length=n:=by rw [l1,List.length_take];omega
   rw [e1,<-hl,List.take_left]
  ·have hd:xs.drop n=[]:=List.drop_eq_nil_of_le (by omega);rw [hd] at l2;have h2:v2=[]:=List.length_eq_zero_iff.1 l2;rw [e1,h2,List.append_nil,List.take_of_length_le (by rw [l1,List.length_take];omega)]
 rw [<-this];exact r1
theorem A67 {w O m xs v fp} (h:RdL w O [.sl false m xs] [v] fp) {l k:Nat} (hl:l+k<=xs.length) :
  ∃a cap,v = .slice a xs.length cap/\xs.length<=cap/\RdL w O [.sl false m ((xs.drop l).take k)] [sliced a l (l+k) cap m] []:=by
 cases h with
 | leaf h t=>
   cases h with
   | nils=>
     have h1:l=0/\k=0:=by simp at hl;omega
     obtain ⟨rfl,rfl⟩:=h1;exact ⟨none,0,rfl,Nat.le_refl _,.leaf (.nils m) .nil⟩
   | empt _ a=>
     have h1:l=0/\k=0:=by simp at hl;omega
     obtain ⟨rfl,rfl⟩:=h1;exact ⟨some a,0,rfl,Nat.le_refl _,.leaf (.empt m a) .nil⟩
 | grp h _ _=>cases h
 | oblk h _ _ _ _ _=>cases h
 | @fblk _ _ b off k0 ch vch _ _ _ hh hc hO s t=>
   cases hh with
   | sl _ _ _ _ _ cap hm hcap=>
     refine ⟨some ⟨b,off,none⟩,cap,rfl,hcap,?_⟩;have hsl:=s.length;have hfl:=Jk hm;by_cases hcl:cap=l
     ·have hk:k=0:=by omega
      subst hk;have e:sliced (some ⟨b,off,none⟩) l (l+0) cap m = .slice (some ⟨b,off,none⟩) 0 0:=by simp [sliced,hcl]
      rw [e,List.take_zero];exact .leaf (.empt m _) .nil
     ·have e:sliced (some ⟨b,off,none⟩) l (l+k) cap m = .slice (some ⟨b,off+l*m,none⟩) ((xs.drop l).take k).length (cap-l):=by
       simp only [sliced,if_neg hcl,Option.map_some,Ii];congr 1;rw [List.length_take,List.length_drop];omega
      rw [e];have hm2 : ∀x∈(xs.drop l).take k,x.cells.length=m:=λx hx=>hm x (List.mem_of_mem_drop (List.mem_of_mem_take hx))
      have hd:=Hdr.sl false m ((xs.drop l).take k) b (off+l*m) (cap-l) hm2 (by rw [List.length_take,List.length_drop];omega);have ef:Bo ((xs.drop l).take k)=((Bo xs).drop (l*m)).take (k*m):=by rw [A0g k λx hx=>hm x (List.mem_of_mem_drop hx),A0w l hm]
      rw [ef] at hd;refine .fblk (vch:=(vch.drop (l*m)).take (k*m)) hd ?_ ⟨?_,Axg hO.2 _ _⟩ (A6f (A5g s _) _) .nil
      ·intro i hi;rw [List.length_take,List.length_drop] at hi;have:=hc (l*m+i) (by omega);rw [Nat.add_assoc,this,List.getElem?_take,if_pos (by omega),List.getElem?_drop]
      ·rcases hO.1 with h1 | h1
       ·left;rw [h1];simp
       ·exact .inr h1
def A0u:A->Option Int
 | .val (.int _ n)=>some n
 | _=>none
def Agc (dflt:Int):Option A->Option Int
 | none=>some dflt
 | some a=>A0u a
def Avr (m:Nat) (cs:List V):Option A->Option A->Bool
 | none,some (.val (.bool true))=>Nat.beq m (1000000+cs.length)&&cs.all V.isCell
 | _,_=>false
def Axs (d m:Nat) (x:A) (lo hi:Option A) (σ:St):Option St:=match x with
 | .val (.ptr o (.agg cs))=>match o with
   | true=>none
   | false=>if Avr m cs lo hi=true then some (A4 d (.val (.sl false 1 cs)) σ) else none
 | .val (.sl o m' xs)=>match o with
   | true=>none
   | false=>(match Agc 0 lo,Agc xs.length hi with
     | some l,some h=>if m'=m/\0<=l/\l<=h/\h<=xs.length then some (A4 d (.val (.sl false m ((xs.drop l.toNat).take (h.toNat-l.toNat)))) σ) else none
     | _,_=>none)
 | _=>none
def App (m:Nat) (x:A) (lo hi:Option A):Option V:=match x with
 | .val (.ptr o (.agg cs))=>match o with
   | true=>none
   | false=>if Avr m cs lo hi=true then some (.sl false 1 cs) else none
 | .val (.sl o m' xs)=>match o with
   | true=>none
   | false=>(match Agc 0 lo,Agc xs.length hi with
     | some l,some h=>if m'=m/\0<=l/\l<=h/\h<=xs.length then some (.sl false m ((xs.drop l.toNat).take (h.toNat-l.toNat))) else none
     | _,_=>none)
 | _=>none
theorem A5a {d m:Nat} {x:A} {lo hi:Option A} {σ:St}:Axs d m x lo hi σ=(App m x lo hi).map λv=>A4 d (.val v) σ:=by
 unfold Axs App;split
 ·split
  ·rfl
  split<;>rfl
 ·split
  ·rfl
  split
  ·split<;>rfl
  rfl
 rfl
theorem A5y {m:Nat} {x:A} {hi:Option A}:App m x (some .top) hi=none:=by
 unfold App;split
 ·split
  ·rfl
  rfl
 ·split
  ·rfl
  rfl
 rfl
theorem A53 {m:Nat} {x:A} {lo:Option A}:App m x lo (some .top)=none:=by
 unfold App;split
 ·split
  ·rfl
  cases lo<;>rfl
 ·split
  ·rfl
  split
  ·rename_i h;simp [Agc,A0u] at h
  rfl
 rfl
def Xf (N:Nat):Option X->Option Operand->Bool
 | none,none=>true
 | some x,some o=>Be N x o
 | _,_=>false
theorem An8 {σ a w O gv N vals fp} (h:Ok σ a w O gv N vals fp) {x:X} {x':Operand} (hx:Be N x x'=true) {n:Int} (hn:A0u (Am σ x)=some n) : ∃k,a.eval x' = .int k n:=by
 have hr:=A9 h hx;unfold A0u at hn;split at hn
 ·rename_i k n' he;cases hn;rw [he] at hr;cases hr with
  | val _ hr _=>exact ⟨k,Cr hr⟩
 cases hn
theorem A65 {P:Program} {o:Oper} {σ σ' a w O gv N vals fp} {d m:Nat} {t x x' e} {lo hi:Option X} {lo' hi':Option Operand} {fi:TypeInfo} (h:Ok σ a w O gv N vals fp) (ho:o.op = .slice t x' lo' hi' none) (hd:o.dst=some d) (hN:d<N)
  (hx:Be N x x'=true) (hlo:Xf N lo lo'=true) (hhi:Xf N hi hi'=true) (hu:P.underlying t=some (.slice e)) (hi2:P.info? e=some fi) (hsz:fi.size=m) (hm6:m<1000000)
  (hs:Axs d m (Am σ x) (lo.map (Am σ)) (hi.map (Am σ)) σ=some σ'):B4 P o σ' a w O gv N fp:=by
 have hrx:=A9 h hx;have hel:P.elem t=e:=by simp [Program.elem,hu]
 have hu':P.underlying t=some (.slice (P.elem t)):=by rw [hel];exact hu
 unfold Axs at hs;split at hs
 case h_3=>cases hs
 case h_1=>
  split at hs
  ·cases hs
  ·split at hs
   ·rename_i hao;unfold Avr at hao;split at hao
    ·have hao2:=Nat.eq_of_beq_eq_true (Bool.and_eq_true _ _▸hao:_/\_).1;omega
    ·cases hao
   ·cases hs
 rename_i o' m' xs hex;split at hs
 ·cases hs
 split at hs
 case h_2=>cases hs
 rename_i l hh hl hr;split at hs
 case isFalse=>cases hs
 rename_i hb;obtain ⟨rfl,b0,b1,b2⟩:=hb;cases hs;rw [hex] at hrx;cases hrx with
 | val hn hr0 _=>
   obtain ⟨ad,cap,hv,hcap,hres⟩:=A67 hr0 (l:=l.toNat) (k:=hh.toNat-l.toNat) (by omega);have eh:l.toNat+(hh.toNat-l.toNat)=hh.toNat:=by omega
   rw [eh] at hres;have hsize : ∀w:World,(sizeOf (P.elem t)).run P w = .ok m' w:=λw=>by rw [hel,<-hsz];exact Gj hi2 w
   refine .rel h hd hN (v:=sliced ad l.toNat hh.toNat cap m') (.val rfl hres .nil) ?_;cases lo with
   | none=>
     cases lo' with
     | some _=>simp [Xf] at hlo
     | none=>
       simp only [Option.map_none,Agc,Option.some.injEq] at hl;subst hl;cases hi with
       | none=>
         cases hi' with
         | some _=>simp [Xf] at hhi
         | none=> simp only [Option.map_none,Agc,Option.some.injEq] at hr;subst hr;have e1:=run_slice_all w t ad xs.length cap hu';simp [execOp,ho,hv,run_sliceAt_slice _ _ _ _ _ _ hu',e1,hsize]
       | some y=>
         cases hi' with
         | none=>simp [Xf] at hhi
         | some y'=> simp only [Option.map_some,Agc] at hr;obtain ⟨k,hk⟩:=An8 h hhi hr;have e1:=run_slice_h w t ad xs.length cap hu' k hh (by omega) (by omega);simp [execOp,ho,hv,hk,run_sliceAt_slice _ _ _ _ _ _ hu',e1,hsize]
   | some y=>
     cases lo' with
     | none=>simp [Xf] at hlo
     | some y'=>
       simp only [Option.map_some,Agc] at hl;obtain ⟨k,hk⟩:=An8 h hlo hl;cases hi with
       | none=>
         cases hi' with
         | some _=>simp [Xf] at hhi
         | none=> simp only [Option.map_none,Agc,Option.some.injEq] at hr;subst hr;have e1:=run_slice_l w t ad xs.length cap hu' k l (by omega) (by omega);simp [execOp,ho,hv,hk,run_sliceAt_slice _ _ _ _ _ _ hu',e1,hsize]
       | some z=>
         cases hi' with
         | none=>simp [Xf] at hhi
         | some z'=> simp only [Option.map_some,Agc] at hr;obtain ⟨k2,hk2⟩:=An8 h hhi hr;have e1:=run_slice_lh w t ad xs.length cap hu' k k2 l hh (by omega) (by omega) (by omega);simp [execOp,ho,hv,hk,hk2,run_sliceAt_slice _ _ _ _ _ _ hu',e1,hsize]
theorem An5 : ∀ {cs:List V},cs.all V.isCell=true->Bo cs=cs
 | [],_=>rfl
 | c::cs,h=>by
   simp only [List.all_cons,Bool.and_eq_true] at h;have e:c.cells=[c]:=by cases c<;>first | rfl | exact absurd h.1 (by simp [V.isCell])
   show c.cells++Bo cs=c::cs;rw [e,An5 h.2];rfl
theorem Avy : ∀ {cs:List V},cs.all V.isCell=true -> ∀c∈cs,c.cells.length=1
 | [],_,c,hc=>by cases hc
 | c0::cs,h,c,hc=>by
   simp only [List.all_cons,Bool.and_eq_true] at h;rcases List.mem_cons.1 hc with rfl | hc
   ·cases c<;>first | rfl | exact absurd h.1 (by simp [V.isCell])
   ·exact Avy h.2 c hc
theorem A7z {w O cs v fp} (h:RdL w O [.ptr false (.agg cs)] [v] fp) (hc:cs.all V.isCell=true) :
  ∃b off,v = .pointer (some ⟨b,off,none⟩)/\RdL w O [.sl false 1 cs] [.slice (some ⟨b,off,none⟩) cs.length cs.length] []:=by
 cases h with
 | leaf h _=>cases h
 | grp h _ _=>cases h
 | oblk h _ _ _ _ _=>cases h
 | @fblk _ _ b off k0 ch vch _ _ _ hh hcl hO s t=>
   cases hh with
   | ptr _ _ _ _=> refine ⟨b,off,rfl,?_⟩;have hd:=Hdr.sl false 1 cs b off cs.length (Avy hc) (Nat.le_refl _);rw [An5 hc] at hd;exact .fblk hd hcl hO s .nil
theorem A7u {P:Program} {o:Oper} {σ σ' a w O gv N vals fp} {d m n:Nat} {t x x' e} {fi:TypeInfo} (h:Ok σ a w O gv N vals fp) (ho:o.op = .slice t x' none none none) (hd:o.dst=some d) (hN:d<N)
  (hx:Be N x x'=true) (hu:P.underlying t=some (.array n e)) (hi2:P.info? e=some fi) (hsz:fi.size=1) (hmn:m=1000000+n)
  (hs:Axs d m (Am σ x) none (some (.val (.bool true))) σ=some σ'):B4 P o σ' a w O gv N fp:=by
 have hrx:=A9 h hx;have hal:P.arrayLen t=n:=by simp [Program.arrayLen,hu]
 have hel:P.elem t=e:=by simp [Program.elem,hu]
 have hu':P.underlying t=some (.array (P.arrayLen t) (P.elem t)):=by rw [hal,hel];exact hu
 unfold Axs at hs;split at hs
 case h_3=>cases hs
 case h_2=>
  split at hs
  ·cases hs
  ·split at hs
   ·rename_i hr;simp [Agc,A0u] at hr
   ·cases hs
 rename_i o' cs hex;split at hs
 ·cases hs
 split at hs
 case isFalse=>cases hs
 rename_i hao;cases hs;simp only [Avr,Bool.and_eq_true] at hao;have hcn:=Nat.eq_of_beq_eq_true hao.1;rw [hex] at hrx;cases hrx with
 | val hn hr0 _=>
   obtain ⟨b,off,hv,hres⟩:=A7z hr0 hao.2;have hsize : ∀w:World,(sizeOf (P.elem t)).run P w = .ok 1 w:=λw=>by rw [hel,<-hsz];exact Gj hi2 w
   refine .rel h hd hN (v:= .slice (some ⟨b,off,none⟩) cs.length cs.length) (.val rfl hres .nil) ?_;have hcl:cs.length=n:=by omega
   rw [hcl];simp [execOp,ho,hv,hsize,hal,run_sliceAt_array_all,hu',slicedAt,Ii]
def Akg (e:Nat) (σ:St):St:=match look σ (e%100000) with
 | .val V=>A4 (e%100000) (.val (V.fzAt (e/100000))) (A4 (e%100000) .top σ)
 | _=>σ
theorem Ahm {σ a w O gv N vals fp} (e0:Nat) (h:Ok σ a w O gv N vals fp) : ∃O' fp',Ok (Akg e0 σ) a w O' gv N vals fp'/\Mv w O (Sof fp) w O' (Sof fp'):=by
 unfold Akg;generalize e0%100000=s;generalize e0/100000=n;split
 case h_2=>exact ⟨O,fp,h,Mv.refl _ _ _⟩
 rename_i V hV;have h1:=h.sim.put_top s (vals s);rw [Abv,<-E8] at h1;obtain ⟨fp1,s1,s2,s3⟩:=RdL.fzAt (h.sim.own s V hV) (h.sim.nd s) n;have hd : ∀t b,b∈upF fp s [] t->b∉fp s:=by
  intro t b hb hbs;simp only [upF] at hb;split at hb
  ·simp at hb
  ·rename_i hne;exact hne (h.sim.dj t s b hb hbs)
 have hstill:Li w O w (λb=>O b/\(b∈fp s->b∈fp1)):=λb hb _=>⟨rfl,λhh=>hb hh.1⟩
 have h2:=h1.world hstill (λt b hb=>⟨rfl,(h1.fpO t b hb).1,λhh=>absurd hh (hd t b hb)⟩);have hr:RdL w (λb=>O b/\(b∈fp s->b∈fp1)) [V.fzAt n] [vals s] fp1:=by
  have:=s3 (λb=>O b/\(b∈fp s->b∈fp1)) (λb hb=>⟨(h.sim.fpO s b (s1 b hb)).1,λ_=>hb⟩) (λb hb hn hh=>hn (hh.2 hb)) (λb hb _ hh=>hb hh.1)
  rwa [A07] at this
 have h3:=h2.put_own s (V.fzAt n) fp1 (by rw [Cc];simp [upF,A.mapR]) hr s2 (λb hb1 t hb2=>hd t b hb2 (s1 b hb1));have e:look (A4 s (.val (V.fzAt n)) (A4 s .top σ))=upF (look (A4 s .top σ)) s (.val (V.fzAt n)):=by
  rw [Cc];funext t;simp only [upF,Ic];split
  ·rfl
  ·rename_i ht;rw [E8];simp only [Ic,if_neg ht];generalize look σ t=x;have key : ∀r l,Ay s 0 r l=none\/Ay s 0 r l=some r:=by intro r l;unfold Ay;split<;>simp
   exact Un (Ay s 0) key x
 rw [<-e] at h3;refine ⟨_,_,⟨h3,h.lo,h.hi,h.sz,h.df⟩,⟨rfl,rfl,rfl,Nat.le_refl _,?_,?_⟩⟩
 ·intro b _ hb;exact ⟨rfl,⟨λhh=>hh.1,λhh=>⟨hh,λhc=>absurd ⟨s,hc⟩ hb⟩⟩⟩
 rintro b ⟨t,ht⟩;left;simp only [upF] at ht;split at ht
 ·exact ⟨s,s1 b ht⟩
 exact ⟨t,ht⟩
theorem B4.frzd {P:Program} {o:Oper} {σ a w O gv N fp} {d:Nat} {U:V} (hd:d<100000) (h:B4 P o (A4 d (.val U) σ) a w O gv N fp):B4 P o (A4 d (.val U.fz) σ) a w O gv N fp:=by
 obtain ⟨v,w',O',vals',fp',h1,h2,h3⟩:=h;obtain ⟨O2,fp2,k1,k2⟩:=Ahm d h2;have e0:d%100000=d:=Nat.mod_eq_of_lt hd;have e1:d/100000=0:=Nat.div_eq_of_lt hd;have hl:look (A4 d (.val U) σ) d = .val U:=by rw [Cc];simp [upF,A.mapR]
 have e2:look (Akg d (A4 d (.val U) σ))=look (A4 d (.val U.fz) σ):=by
  unfold Akg;rw [e0,e1,hl];simp only [Ak];rw [Cc,E8,Cc,Cc];funext t;simp only [upF,Ic,A.mapR];by_cases ht:t=d
  ·simp [ht]
  ·simp only [if_neg ht];generalize (look σ t)=x;have key : ∀r l,Ay d 0 r l=none\/Ay d 0 r l=some r:=by intro r l;unfold Ay;split<;>simp
   have:=Un (Ay d 0) key x;simp_all
 exact ⟨v,w',O2,vals',fp2,h1,⟨e2▸k1.sim,k1.lo,k1.hi,k1.sz,k1.df⟩,h3.trans k2⟩
def Aza (d m:Nat) (xs:List A) (σ:St):Option St:=match Rk σ xs with
 | some (Us,σ1)=>if Vq m Us then some (A4 d (.val (V.sl true m Us).fz) σ1) else none
 | none=>none
theorem Ax4 {d m xs σ σ'} (h:Aza d m xs σ=some σ') : ∃U σ1,Awd d m xs σ=some (A4 d (.val U) σ1)/\σ'=A4 d (.val U.fz) σ1:=by
 unfold Aza at h;split at h
 ·rename_i hU;split at h
  ·rename_i hc;cases h;exact ⟨_,_,by simp only [Awd,hU];rw [if_pos hc],rfl⟩
  cases h
 cases h
def Gs {κ β:Type} [DecidableEq κ]:List (κ×β)->κ->Option β
 | [],_=>none
 | (a,b)::r,k=>if k=a then some b else Gs r k
def Lv {κ β:Type} [DecidableEq κ]:List (κ×β)->κ->β->List (κ×β)
 | [],k,v=>[(k,v)]
 | (a,b)::r,k,v=>if k=a then (a,v)::r else (a,b)::Lv r k v
theorem Arm {κ β γ:Type} [DecidableEq κ] (f:β->γ) (k:κ) : ∀(l:List (κ×β)),Gs (l.map λe=>(e.1,f e.2)) k=(Gs l k).map f
 | []=>rfl
 | (a,b)::r=>by
   simp only [List.map_cons,Gs];split
   ·rfl
   ·exact Arm f k r
theorem Arq {κ β γ:Type} [DecidableEq κ] (f:β->γ) (k:κ) (v:β) : ∀(l:List (κ×β)),Lv (l.map λe=>(e.1,f e.2)) k (f v)=(Lv l k v).map λe=>(e.1,f e.2)
 | []=>rfl
 | (a,b)::r=>by
   simp only [List.map_cons,Lv];split
   ·rfl
   ·simp only [List.map_cons];rw [Arq f k v r]
def Lf.v:Lf->V
 | .int k n=> .int k n
 | .bool b=> .bool b
 | .str s=> .str s
def vLf:V->Option Lf
 | .int k n=>some (.int k n)
 | .bool b=>some (.bool b)
 | .str s=>some (.str s)
 | _=>none
theorem Lf.rd (w:World) (O:Nat->Prop) (x:Lf):RdL w O [x.v] [x.val] []/\x.v.hasOwn=false:=by
 cases x with
 | int k n=>exact ⟨.leaf (.int _ _) .nil,rfl⟩
 | bool b=>exact ⟨.leaf (.bool _) .nil,rfl⟩
 | str s=>exact ⟨.leaf (.str _) .nil,rfl⟩
theorem A2z {w O u x v fp} (h:RdL w O [u] [v] fp) (hx:vLf u=some x):v=x.val:=by
 cases u<;>simp [vLf] at hx<;>subst hx
 ·exact Cr h
 ·exact Ge h
 exact Lg h
theorem Lf.wide (x:Lf):x.val.oneCell'=true:=by cases x<;>rfl
structure KKind {κ:Type} (kv:κ->Value) (d:TypeDesc):Prop where
 key : ∀a,Go.MapKept.IsKey d (kv a)
 inj : ∀a b,kv a=kv b->a=b
theorem kkS:KKind (λs=>Value.string s) .string:=⟨λ_=>trivial,λ_ _ h=>by cases h;rfl⟩
theorem kkI:KKind (λn=>Value.int .i64 n) (.int .i64):=⟨λ_=>rfl,λ_ _ h=>by cases h;rfl⟩
def Ac0 {κ:Type} (kv:κ->Value) (L:List MapEntry) (es:List (κ×Lf)):Prop:=L.map (λe=>(e.key,e.val))=es.map λe=>(kv e.1,e.2.val)
theorem Afy {κ:Type} [DecidableEq κ] {kv:κ->Value} {dk:TypeDesc} (hk0:KKind kv dk) (k:κ) : ∀(L:List MapEntry) (es:List (κ×Lf)) (i:Nat),Ac0 kv L es ->
  (Gs es k=none/\Instr.findNow dk (kv k) L i=some none /\ ∀v,Lv es k v=es++[(k,v)]) \/
  ∃j b e,Gs es k=some b/\Instr.findNow dk (kv k) L i=some (some (i+j,b.val))/\L[j]? = some e/\e.key=kv k /\
    ∀v:Lf,Ac0 kv (L.modify j λe=>{ e with key:=kv k,val:=v.val }) (Lv es k v)
 | [],es,i,h=>by
   have:es=[]:=by
    cases es with
    | nil=>rfl
    | cons a r=>simp [Ac0] at h
   subst this;exact .inl ⟨rfl,rfl,λ_=>rfl⟩
 | e::L,es,i,h=>by
   cases es with
   | nil=>simp [Ac0] at h
   | cons a es=>
     obtain ⟨a1,a2⟩:=a;simp only [Ac0,List.map_cons,List.cons.injEq,Prod.mk.injEq] at h;obtain ⟨⟨h1,h2⟩,h3⟩:=h;obtain ⟨r,hr,hiff⟩:=Go.MapKept.sameNow_of_keys (hk0.key k) (hk0.key a1);by_cases hk:k=a1
     ·subst hk;refine .inr ⟨0,a2,e,by simp [Gs],?_,rfl,h1,λv=> ?_⟩
      ·have:r=true:=hiff.2 rfl;subst this;simp [Instr.findNow,h1,h2,hr]
      ·simp only [Ac0,Lv,if_true,List.modify_zero_cons,List.map_cons,List.cons.injEq,true_and];exact h3
     ·have hb:r=false:=by
       cases r with
       | false=>rfl
       | true=>exact absurd (hk0.inj _ _ (hiff.1 rfl)) hk
      subst hb;rcases Afy hk0 k L es (i+1) h3 with ⟨g1,g2,g3⟩ | ⟨j,b,e',g1,g2,g3,g4,g5⟩
      ·refine .inl ⟨by simp [Gs,hk,g1],by simp [Instr.findNow,h1,hr,g2],λv=> ?_⟩;simp only [Lv,if_neg hk,g3,List.cons_append]
      ·refine .inr ⟨j+1,b,e',by simp [Gs,hk,g1],?_,by simpa using g3,g4,λv=> ?_⟩
       ·simp [Instr.findNow,h1,hr,g2];omega
       ·have:=g5 v;simp only [Ac0] at this ⊢;simp only [Lv,if_neg hk,List.modify_succ_cons,List.map_cons,h1,h2];rw [this]
def mpA (σ:St):A->Option Es
 | .val (.mp o es)=>if o then none else some es
 | .ref r p=>match Cd σ r p with
   | some (.mp _ es)=>some es
   | _=>none
 | _=>none
theorem A4i {w O o es v fp} (h:RdL w O [.mp o es] [v] fp) : ∃b ents ck,v = .map (some b)/\w.heap[b]? = some (.map ents ck)/\ents.toList.map (λe=>(e.key,e.val))=es.vals/\(o=true->O b/\fp=[b])/\(o=false->¬O b/\fp=[]):=by
 cases h with
 | leaf hl _=>cases hl
 | grp hg _ _=>cases hg
 | fblk hh _ _ _ _=>cases hh
 | oblk hh _ _ _ _ _=>cases hh
 | mpf hb he hO t=>cases t;exact ⟨_,_,_,rfl,hb,he,λe=>Bool.noConfusion e,λ_=>⟨hO,rfl⟩⟩
 | mpo hb he hO t=>cases t;exact ⟨_,_,_,rfl,hb,he,λ_=>⟨hO,rfl⟩,λe=>Bool.noConfusion e⟩
theorem A7l {σ a w O gv N vals fp} (h:Ok σ a w O gv N vals fp) {x:A} {v:Value} {es:Es} (hr:RelL w O (look σ) vals [x] [v]) (hm:mpA σ x=some es) :
  ∃b ents ck,v = .map (some b)/\w.heap[b]? = some (.map ents ck)/\ents.toList.map (λe=>(e.key,e.val))=es.vals:=by
 cases hr with
 | top _=>simp [mpA] at hm
 | rfv _ _ _ _=>simp [mpA] at hm
 | agg _ _=>simp [mpA] at hm
 | clo _ _=>simp [mpA] at hm
 | addr _ _ _ _ _ _=>simp [mpA] at hm
 | fad _ _ _ _=>simp [mpA] at hm
 | @val y _ _ _ hn hr _=>
   cases y<;>simp [mpA] at hm
   obtain ⟨_,rfl⟩:=hm;obtain ⟨b,ents,ck,e1,e2,e3,_⟩:=A4i hr;exact ⟨b,ents,ck,e1,e2,e3⟩
 | @ref r p T u _ _ _ hL hs hv _=>
   simp only [mpA,Cd,hL,hs] at hm;cases u<;>simp at hm
   subst hm;obtain ⟨x,fp1,fpu,fp2,_,hx,hru,_⟩:=ctx p (h.sim.own r T hL) hs;rw [hv] at hx;cases hx;obtain ⟨b,ents,ck,e1,e2,e3,_⟩:=A4i hru;exact ⟨b,ents,ck,e1,e2,e3⟩
def A3y:Bool->Es
 | false=> .s []
 | true=> .i []
theorem A01 (kd:Bool):(A3y kd).vals=[]:=by cases kd<;>rfl
def A8x (d:Nat) (kd:Bool) (σ:St):Option St:=some (A4 d (.val (.mp true (A3y kd))) σ)
theorem A7x {P:Program} {o:Oper} {σ a w O gv N vals fp} {d:Nat} {kd:Bool} {t:TypeId} (h:Ok σ a w O gv N vals fp) (ho:o.op = .makeMap t none) (hd:o.dst=some d) (hN:d<N):B4 P o (A4 d (.val (.mp true (A3y kd))) σ) a w O gv N fp:=by
 let w':=w.alloc (.map #[] 0)
 let O':Nat->Prop:=λb=>O b\/b=w.heap.size
 have hw:w'.heap=w.heap.push (.map #[] 0):=rfl;have hold : ∀b,b<w.heap.size->w'.heap[b]? = w.heap[b]? := λb hb=>by rw [hw];exact Re w _ b hb
 have hstill:Li w O w' O':=λb hb hlt=>⟨hold b hlt,by simp [O'];exact ⟨hb,by omega⟩⟩
 have hlt1 : ∀b,Sof fp b->O b/\b<w.heap.size:=λb ⟨s,hs⟩=>h.sim.fpO s b hs
 have o1:Ok σ a w' O' gv N vals fp:=h.world hstill λb hb=>⟨hold b (hlt1 b hb).2,.inl (hlt1 b hb).1⟩
 have hblk:w'.heap[w.heap.size]? = some (.map #[] 0):=by rw [hw];simp
 have hread:RdL w' O' [.mp true (A3y kd)] [.map (some w.heap.size)] [w.heap.size]:= .mpo hblk (A01 kd).symm (.inr rfl) .nil;obtain ⟨fp',o2,s2⟩:=o1.put_own hN hread (by simp) (by intro b hb hb1;rw [List.mem_singleton.1 hb] at hb1;have:=(hlt1 _ hb1).2;omega);refine ⟨.map (some w.heap.size),w',O',_,fp',.inl (by simp [execOp,ho,Instr.makeMap,w',Result.andThen]),by rw [hd];exact o2,⟨rfl,rfl,rfl,by rw [hw];simp,?_,?_⟩⟩
 ·intro b hb _;exact ⟨hold b hb,by simp [O'];omega⟩
 intro b hb;rcases s2 b hb with h | h
 ·exact .inl h
 rw [List.mem_singleton.1 h];exact .inr (Nat.le_refl _)
def Axm {κ:Type} [DecidableEq κ] (es:List (κ×Lf)) (k:κ) (z:Lf) (ok:Bool):V:=if ok then .tup [((Gs es k).getD z).v,.bool (Gs es k).isSome] else ((Gs es k).getD z).v
def A5s (kd:Bool) (es:Es) (k:V) (z:Lf) (ok:Bool):Option V:=match kd,es,k with
 | false,.s es,.str s=>some (Axm es s z ok)
 | true,.i es,.int .i64 n=>some (Axm es n z ok)
 | _,_,_=>none
def kdD:Bool->TypeDesc
 | false=> .string
 | true=> .int .i64
def A57 (d:Nat) (x k:A) (z:Lf) (ok kd:Bool) (σ:St):Option St:=match mpA σ x,E1 k with
 | some es,some u=>(A5s kd es u z ok).map λv=>A4 d (.val v) σ
 | _,_=>none
theorem Azr {κ:Type} [DecidableEq κ] {kv:κ->Value} {dk:TypeDesc} (hk0:KKind kv dk) {P:Program} {o:Oper} {σ a w O gv N vals fp} {d:Nat} {t kt et x' k' z ok} {fi:TypeInfo} {es:List (κ×Lf)} {s:κ} {b:Nat} {ents:Array MapEntry} {ck:Nat} (h:Ok σ a w O gv N vals fp) (ho:o.op = .lookup t x' k' ok) (hd:o.dst=some d) (hN:d<N)
  (ht:P.underlying t=some (.map kt et)) (hkt:P.underlying kt=some dk) (hi:P.info? et=some fi) (hz:fi.zero=some z.val)
  (e1:a.eval x' = .map (some b)) (e2:w.heap[b]? = some (.map ents ck)) (e3:Ac0 kv ents.toList es) (ek:a.eval k'=kv s):B4 P o (A4 d (.val (Axm es s z ok)) σ) a w O gv N fp:=by
 have hrd:=(Lf.rd w O ((Gs es s).getD z))
 have hval:RelL w O (look σ) vals [.val (Axm es s z ok)] [if ok=true then .tuple #[((Gs es s).getD z).val,.bool (Gs es s).isSome] else ((Gs es s).getD z).val]:=by
  unfold Axm;cases ok with
  | false=>simp only [Bool.false_eq_true,if_false];exact .val hrd.2 hrd.1 .nil
  | true=> simp only [if_true];refine .val (by simp [V.hasOwn,Bl,hrd.2]) ?_ .nil;have:=RdL.grp (.tup [((Gs es s).getD z).v,.bool (Gs es s).isSome] [((Gs es s).getD z).val,.bool (Gs es s).isSome]) (hrd.1.cons_join (.leaf (.bool _) .nil)) (.nil (w:=w) (O:=O));simpa using this
 refine .rel h hd hN hval ?_;have hck:=Go.MapKept.run_checkKey (P:=P) (w:=w) (kt:=kt) (d:=dk) (k:=kv s) hkt (hk0.key s) ents.isEmpty 9999;rcases Afy hk0 s ents.toList es 0 e3 with ⟨g1,g2,_⟩ | ⟨j,lb,e,g1,g2,_,_,_⟩
 ·have hf:=Go.MapKept.run_findKey (P:=P) (w:=w) hkt g2;simp [execOp,ho,e1,ek,Instr.lookup,run_underlying ht,Go.MapKept.run_getObj_map e2,hck,hf,zeroValue,typeInfo,hi,hz,g1,Result.andThen]
 have hf:=Go.MapKept.run_findKey (P:=P) (w:=w) hkt g2;simp [execOp,ho,e1,ek,Instr.lookup,run_underlying ht,Go.MapKept.run_getObj_map e2,hck,hf,g1,Result.andThen]
theorem A7g {P:Program} {o:Oper} {σ σ' a w O gv N vals fp} {d:Nat} {t kt et x x' k k' z ok zv} {kd:Bool} {fi:TypeInfo} (h:Ok σ a w O gv N vals fp) (ho:o.op = .lookup t x' k' ok) (hd:o.dst=some d) (hN:d<N)
  (ht:P.underlying t=some (.map kt et)) (hkt:P.underlying kt=some (kdD kd)) (hi:P.info? et=some fi) (hz:fi.zero=some zv) (hc:cRd z.v zv=true)
  (hx:Be N x x'=true) (hk:Be N k k'=true) (hs:A57 d (Am σ x) (Am σ k) z ok kd σ=some σ'):B4 P o σ' a w O gv N fp:=by
 simp only [A57] at hs;split at hs
 case h_2=>cases hs
 rename_i es u hes hu;obtain ⟨b,ents,ck,e1,e2,e3⟩:=A7l h (A9 h hx) hes;obtain ⟨ru,_⟩:=Ru (A9 h hk) hu;have ezv:zv=z.val:=A2z (Api w O z.v zv hc).1 (by cases z<;>rfl);subst ezv;obtain ⟨v,hv,rfl⟩:=Option.map_eq_some_iff.1 hs;unfold A5s at hv;split at hv
 ·cases hv;exact Azr kkS h ho hd hN ht hkt hi hz e1 e2 e3 (Lg ru)
 ·cases hv;exact Azr kkI h ho hd hN ht hkt hi hz e1 e2 e3 (Cr ru)
 cases hv
def Es.len:Es->Nat
 | .s l=>l.length
 | .i l=>l.length
def A64 (kd:Bool) (es:Es) (k:V) (x:Lf):Option Es:=match kd,es,k with
 | false,.s es,.str s=>some (.s (Lv es s x))
 | true,.i es,.int .i64 n=>some (.i (Lv es n x))
 | _,_,_=>none
def A5n (m k v:A) (kd:Bool) (σ:St):Option St:=match m with
 | .ref r p=>match look σ r with
   | .val T=>match sub p T with
     | some (.mp true es)=>match E1 k,(E1 v).bind vLf with
       | some u,some x=>match A64 kd es u x with
         | some es'=>match upd p T (.mp true es') with
           | some T'=>some (K6 r T' (p.length+1) σ)
           | none=>none
         | none=>none
       | _,_=>none
     | _=>none
   | _=>none
 | _=>none
theorem A4h {P:Program} {o:Oper} {σ σ' a w O gv N vals fp} {t kt et m m' k k' v v'} {kd:Bool} (h:Ok σ a w O gv N vals fp) (ho:o.op = .mapUpdate t m' k' v'\/o.op = .insert t m' k' v') (hd:o.dst=none)
  (ht:P.underlying t=some (.map kt et)) (hkt:P.underlying kt=some (kdD kd))
  (hm:Be N m m'=true) (hk:Be N k k'=true) (hv:Be N v v'=true) (hs:A5n (Am σ m) (Am σ k) (Am σ v) kd σ=some σ'):B4 P o σ' a w O gv N fp:=by
 have hrel:=A9 h hm;simp only [A5n] at hs;split at hs
 case h_2=>cases hs
 rename_i r p em;split at hs
 case h_2=>cases hs
 rename_i T hT;split at hs
 case h_2=>cases hs
 rename_i es hnd;split at hs
 case h_2=>cases hs
 rename_i u x hu hxx;split at hs
 case h_2=>cases hs
 rename_i es' hes';split at hs
 case h_2=>cases hs
 rename_i T' hT';cases hs;obtain ⟨ru,_⟩:=Ru (A9 h hk) hu;obtain ⟨u2,hu2,hus2⟩:=Option.bind_eq_some_iff.1 hxx;obtain ⟨ru2,_⟩:=Ru (A9 h hv) hu2;have ev:=A2z ru2 hus2;rw [em] at hrel;cases hrel with
 | @ref _ _ T2 nd _ _ _ hL hs2 hval _=>
 rw [hT] at hL;cases hL;rw [hnd] at hs2;cases hs2;have hR:=h.sim.own r T hT;obtain ⟨x0,f1,fu,f2,efp,hx0,hru,hset⟩:=ctx p hR hnd;rw [hval] at hx0;cases hx0;obtain ⟨b,ents,ck,e1,e2,e3,e4,_⟩:=A4i hru;obtain ⟨hO,rfl⟩:=e4 rfl;have hbr:b∈fp r:=by rw [efp];simp
 have hnodup:=h.sim.nd r;rw [efp] at hnodup;have nd1:=List.nodup_append.1 hnodup;have nd2:=List.nodup_append.1 nd1.2.1;have key : ∀(ents':Array MapEntry) (ck':Nat),ents'.toList.map (λe=>(e.key,e.val))=es'.vals->(execOp a.eval o).run P w = .ok .skip { w with heap:=w.heap.setIfInBounds b (.map ents' ck') }->B4 P o (K6 r T' (p.length+1) σ) a w O gv N fp:=by
  intro ents' ck' hents hrun
  let w':World:={ w with heap:=w.heap.setIfInBounds b (.map ents' ck') }
  obtain ⟨hb',hother⟩:=Go.MapKept.heap_set (o':= .map ents' ck') e2;have hstill:Li w O w' O:=λq hq _=>⟨hother q (λe=>hq (e▸hO)),hq⟩
  have hnode':RdL w' O [.mp true es'] [a.eval m'] [b]:=by rw [e1];exact .mpo hb' hents hO .nil
  have hrest : ∀q∈f1++f2,w'.heap[q]? = w.heap[q]? /\ O q:=by
   intro q hq;have hqr:q∈fp r:=by rw [efp];simp at hq ⊢;rcases hq with h | h<;>simp [h]
   refine ⟨hother q ?_,(h.sim.fpO r q hqr).1⟩;rintro rfl;rcases List.mem_append.1 hq with h | h
   ·exact nd1.2.2 q h q (by simp) rfl
   ·exact nd2.2.2 q (by simp) q h rfl
  have hRT:=hset w' O T' _ [b] hT' hrest hstill hnode';have hsim:=h.sim.turn r (p.length+1) T T' _ hT hstill (λs hs q hq=>⟨hother q (by rintro rfl;exact hs (h.sim.dj s r q hq hbr)),(h.sim.fpO s q hq).1⟩) hRT hnodup
   (by intro q hq s hs hqs;exact hs (h.sim.dj s r q hqs (by rw [efp];exact hq)))
   (by intro q u v hlt hq hvq;obtain ⟨u2,h2,h3⟩:=Ajk p q hq hnd hT' (by omega) (λ_ hn=>by simp [V.node] at hn);refine ⟨u2,h2,h3,?_⟩;rw [Um p q hR (h.sim.nd r) hnd hq (by omega) hval hru (λz hz hzn=>hother z (by rintro rfl;exact hzn (by simp)))];exact hvq)
  rw [<-Lr hT] at hsim;refine ⟨undef,w',O,vals,upF fp r (f1++([b]++f2)),.inr ⟨hrun,rfl⟩,?_,?_⟩
  ·rw [hd];exact ⟨hsim,h.lo,h.hi,h.sz,h.df⟩
  ·refine ⟨rfl,rfl,rfl,by simp [w'],?_,?_⟩
   ·intro q _ hq;exact ⟨hother q (by rintro rfl;exact hq ⟨r,hbr⟩),.rfl⟩
   ·rintro q ⟨s,hs⟩;left;simp only [upF] at hs;split at hs
    ·exact ⟨r,by rw [efp];exact hs⟩
    ·exact ⟨s,hs⟩
 have fin : ∀ {κ:Type} [DecidableEq κ] {kv:κ->Value} (_:KKind kv (kdD kd)) {l:List (κ×Lf)} {s:κ},Ac0 kv ents.toList l->a.eval k'=kv s ->
   (∀(ents':Array MapEntry),Ac0 kv ents'.toList (Lv l s x)->ents'.toList.map (λe=>(e.key,e.val))=es'.vals)->B4 P o (K6 r T' (p.length+1) σ) a w O gv N fp:=by
  intro κ _ kv hk0 l s e3 ek hgo;have hck:=Go.MapKept.run_checkKey (P:=P) (w:=w) (kt:=kt) (d:=kdD kd) (k:=kv s) hkt (hk0.key s) false 9999;rcases Afy hk0 s ents.toList l 0 e3 with ⟨g1,g2,g3⟩ | ⟨j,lb,e,g1,g2,g4,g5,g6⟩
  ·have hf:=Go.MapKept.run_findKey (P:=P) (w:=w) hkt g2;refine key (ents.push { key:=kv s,val:=x.val,born:=ck }) (ck+1) (hgo _ ?_) ?_
   ·rw [g3];simp only [Ac0,Array.toList_push,List.map_append,List.map_cons,List.map_nil];rw [e3]
   ·rcases ho with ho | ho<;>simp [execOp,ho,e1,ek,ev,Instr.mapUpdate,run_underlying ht,Go.MapKept.run_getObj_map e2,hck,hf,Go.MapKept.run_setObj_map _ e2,Result.andThen]
  ·have hf:=Go.MapKept.run_findKey (P:=P) (w:=w) hkt g2;have hkey:(((ents[j]?).map (·.key)).getD (kv s))=kv s:=by
    rw [<-Array.getElem?_toList,g4];exact g5
   have hstay:=Go.MapKept.run_keyThatStays (P:=P) (w:=w) (d:=kdD kd) (k:=kv s) (hk0.key s);refine key (ents.modify j λe=>{ e with key:=kv s,val:=x.val }) ck (hgo _ ?_) ?_
   ·rw [Array.toList_modify];exact g6 x
   ·rcases ho with ho | ho
    ·simp [execOp,ho,e1,ek,ev,Instr.mapUpdate,run_underlying ht,Go.MapKept.run_getObj_map e2,hck,hf,Result.andThen];rw [hkey,hstay];simp [Go.MapKept.run_setObj_map _ e2]
    ·simp [execOp,ho,e1,ek,ev,Instr.mapUpdate,run_underlying ht,Go.MapKept.run_getObj_map e2,hck,hf,Result.andThen];rw [hkey,hstay];simp [Go.MapKept.run_setObj_map _ e2]
 unfold A64 at hes';split at hes'
 ·cases hes';exact fin kkS e3 (Lg ru) λ_ h=>h
 ·cases hes';exact fin kkI e3 (Cr ru) λ_ h=>h
 cases hes'
def Aa8 (ns:List Int):ByteArray:=ns.foldl (λr n=>r.push (UInt8.ofNat n.toNat)) ByteArray.empty
def Tb:List V->Option (List Int)
 | []=>some []
 | .int k n::r=>if k = .u8 then (Tb r).map (n :: ·) else none
 | _=>none
theorem Ay2 (ns:List Int):Tb (ns.map (V.int .u8))=some ns:=by
 induction ns with
 | nil=>rfl
 | cons n r ih=>simp [Tb,ih]
theorem Asf {w O} : ∀ {xs:List V} {ns:List Int} {vch fp},Tb xs=some ns->RdL w O (Bo xs) vch fp->vch=ns.map (Value.int .u8)/\ns.length=xs.length:=by
 intro xs
 induction xs with
 | nil=>intro ns vch fp h hr;simp [Tb] at h;subst h;simp only [Bo] at hr;cases hr;exact ⟨rfl,rfl⟩
 | cons x r ih=>
   intro ns vch fp h hr;cases x<;>simp [Tb] at h
   rename_i k n;obtain ⟨rfl,ms,h1,rfl⟩:=h;simp only [Bo,V.cells,List.cons_append,List.nil_append] at hr;obtain ⟨v,vs2,f1,f2,rfl,rfl,r1,r2⟩:=hr.cons_split;obtain ⟨e1,e2⟩:=ih h1 r2;exact ⟨by rw [Cr r1,e1];rfl,by simp [e2]⟩
def slA (σ:St):A->Option (Nat×List V)
 | .val (.sl o m xs)=>if o then none else some (m,xs)
 | .ref r p=>match Cd σ r p with
   | some (.sl _ m xs)=>some (m,xs)
   | _=>none
 | _=>none
theorem A7s {σ a w O gv N vals fp} (h:Ok σ a w O gv N vals fp) {x:A} {v:Value} {m:Nat} {xs:List V} (hr:RelL w O (look σ) vals [x] [v]) (hm:slA σ x=some (m,xs)) : ∃o fp1,RdL w O [.sl o m xs] [v] fp1:=by
 cases hr with
 | top _=>simp [slA] at hm
 | rfv _ _ _ _=>simp [slA] at hm
 | agg _ _=>simp [slA] at hm
 | clo _ _=>simp [slA] at hm
 | addr _ _ _ _ _ _=>simp [slA] at hm
 | fad _ _ _ _=>simp [slA] at hm
 | @val y _ _ _ hn hr _=>
   cases y<;>simp [slA] at hm
   obtain ⟨_,rfl,rfl⟩:=hm;exact ⟨_,_,hr⟩
 | @ref r p T u _ _ _ hL hs hv _=>
   simp only [slA,Cd,hL,hs] at hm;cases u<;>simp at hm
   obtain ⟨rfl,rfl⟩:=hm;obtain ⟨x,fp1,fpu,fp2,_,hx,hru,_⟩:=ctx p (h.sim.own r T hL) hs;rw [hv] at hx;cases hx;exact ⟨_,_,hru⟩
theorem A16 {w O o xs v fp ns} (h:RdL w O [.sl o 1 xs] [v] fp) (hb:Tb xs=some ns) : ∃q c,v = .slice q ns.length c/\(q=none->ns=[]) /\ ∀a,q=some a -> ∀j u,(ns.map (Value.int .u8))[j]? = some u->w.cell? (a.add j)=some u:=by
 cases h with
 | leaf hl _=>
   cases hl<;>(simp [Tb] at hb;subst hb)
   ·exact ⟨none,0,rfl,λ_=>rfl,λa e=>by cases e⟩
   ·exact ⟨_,0,rfl,λ_=>rfl,λa _ j u hj=>by simp at hj⟩
   ·exact ⟨none,0,rfl,λ_=>rfl,λa e=>by cases e⟩
 | grp hg _ _=>cases hg
 | fblk hh hc hO s _=>
   cases hh with
   | sl _ _ _ b off cap hm hcap=> obtain ⟨e1,e2⟩:=Asf hb s;refine ⟨_,cap,by rw [e2],λe=>by (cases e),λa ha j u hj=> ?_⟩;cases ha;rw [Ii,hc j (by rw [e1];exact (List.getElem?_eq_some_iff.1 hj).1),e1,hj]
 | @oblk _ _ b k ch arr e fp1 _ _ fp2 hh hb2 hO hk s _=>
   cases hh with
   | sl _ _ _ _ _ cap hm hcap=>
     obtain ⟨e1,e2⟩:=Asf hb s;refine ⟨_,cap,by rw [e2],λe=>by (cases e),λa ha j u hj=> ?_⟩;cases ha;have hj':=hj;rw [<-e1,List.getElem?_take] at hj';split at hj'
     ·rw [Ii];simp [World.cell?,hb2];rw [<-Array.getElem?_toList];exact hj'
     ·cases hj'
def Azn (d:Nat) (x:A) (σ:St):Option St:=match slA σ x with
 | some (m,xs)=>if m=1 then (Tb xs).map λns=>A4 d (.val (.str (Aa8 ns))) σ else none
 | none=>none
theorem A4w {P:Program} {o:Oper} {σ σ' a w O gv N vals fp} {d:Nat} {s t e x x'} (h:Ok σ a w O gv N vals fp) (ho:o.op = .convert s t x') (hd:o.dst=some d) (hN:d<N)
  (hsrc:P.underlying s=some (.slice e)) (he:P.underlying e=some (.int .u8)) (hdst:P.underlying t=some .string) (hx:Be N x x'=true) (hs:Azn d (Am σ x) σ=some σ'):B4 P o σ' a w O gv N fp:=by
 simp only [Azn] at hs;split at hs
 case h_2=>cases hs
 rename_i m xs hsl;split at hs
 case isFalse=>cases hs
 rename_i hm;subst hm;obtain ⟨ns,hb,rfl⟩:=Option.map_eq_some_iff.1 hs;obtain ⟨o',fp1,hr⟩:=A7s h (A9 h hx) hsl;obtain ⟨q,c,e1,e2,e3⟩:=A16 hr hb;refine .rel h hd hN (.val rfl (.leaf (.str (Aa8 ns)) .nil) .nil) ?_;have hrun:(Conv.bytesToString (.slice q ns.length c)).run P w = .ok (.string (Aa8 ns)) w:=by
  cases q with
  | none=>rw [e2 rfl];rfl
  | some a1=> refine run_bytesToString w a1 ns.length c ns ?_;have:=run_loadCells_list (P:=P) (w:=w) a1 (ns.map (Value.int .u8)) (e3 a1 rfl);simpa using this
 simp [execOp,ho,e1,run_convert_bytes_string w s t e q ns.length c hsrc he hdst,hrun,Result.andThen]
end Go.Proofs.Ytaalgpkajkogkaa.Ax
namespace Go.Proofs.Ytaalgpkajkogkaa.Ax
open Go
def V.isBool:V->Bool
 | .bool _=>true
 | _=>false
def A70 (d:Nat) (op:BinOp) (x y:A) (σ:St):Option St:=match E1 x with
 | some u=>if u.isBool then none else Az7 d op x y σ
 | none=>none
noncomputable def Ds:AOp->St->Option St
 | .mov d x,σ=>some (A4 d (upA (Am σ x)) σ)
 | .asg d x,σ=>Avi d (Am σ x) σ
 | .slc d m x lo hi,σ=>Axs d m (Am σ x) (lo.map (Am σ)) (hi.map (Am σ)) σ
 | .pick d c x y,σ=>Asq d (Am σ c) (Am σ x) (Am σ y) σ
 | .bin d op x y,σ=>A70 d op (Am σ x) (Am σ y) σ
 | .binb d op x y,σ=>Az7 d op (Am σ x) (Am σ y) σ
 | .un d op x,σ=>unS d op (Am σ x) σ
 | .cnv d k x,σ=>A5t d k (Am σ x) σ
 | .len d x,σ=>A7w d (Am σ x) σ
 | .slen d x,σ=>Avk d (Am σ x) σ
 | .sidx d x i,σ=>Az3 d (Am σ x) (Am σ i) σ
 | .ext d x i,σ=>Awu d (Am σ x) i σ
 | .iad d m x i,σ=>A1x d m (Am σ x) (Am σ i) σ
 | .fadr d off x,σ=>Azj d off (Am σ x) σ
 | .ld d n ag x,σ=>ldS d n ag (Am σ x) σ
 | .st n x v,σ=>Ath σ n x v
 | .box d x,σ=>A5h d (Am σ x) σ
 | .alc d z,σ=>A40 d z σ
 | .mk d m z x,σ=>mkS d m z (Am σ x) σ
 | .mkc d m _ x,σ=>A1q d m (Am σ x) σ
 | .bsl d m ps,σ=>Awd d m (ps.map (Am σ)) σ
 | .bslr d m ps,σ=>Aza d m (ps.map (Am σ)) σ
 | .bld d z ps,σ=>A5b d z ps σ
 | .app d m x y,σ=>A0y d m x y σ
 | .nck d x,σ=>A45 d (Am σ x) σ
 | .mkf d f cs,σ=>some (A4 d (A5d f (cs.map (Am σ))) σ)
 | .mkm d kd,σ=>A8x d kd σ
 | .mlk d x k z ok kd,σ=>A57 d (Am σ x) (Am σ k) z ok kd σ
 | .mup m k v kd,σ=>A5n (Am σ m) (Am σ k) (Am σ v) kd σ
 | .bstr d x,σ=>Azn d (Am σ x) σ
 | .apf d m x y e,σ=>A47 d m (Am σ x) (Am σ y) e σ
 | _,_=>none
def Avt (P:Program) (kd:Bool) (t:TypeId):Option TypeInfo:=match P.underlying t with
 | some (.map k e)=>(match kd,P.underlying k with
   | false,some .string=>P.info? e
   | true,some (.int .i64)=>P.info? e
   | _,_=>none)
 | _=>none
theorem Af0 {P:Program} {kd:Bool} {t:TypeId} {fi:TypeInfo} (h:Avt P kd t=some fi) : ∃k e,P.underlying t=some (.map k e)/\P.underlying k=some (kdD kd)/\P.info? e=some fi:=by
 unfold Avt at h;split at h
 case h_2=>cases h
 rename_i k e h1;split at h
 ·rename_i h2;exact ⟨k,e,h1,h2,h⟩
 ·rename_i h2;exact ⟨k,e,h1,h2,h⟩
 cases h
def O5 (P:Program) (t:TypeId):Option TypeInfo:=match P.underlying t with
 | some (.slice e)=>P.info? e
 | _=>none
def Ast (P:Program) (t:TypeId) (i:Nat):Option (Nat×TypeInfo):=match P.underlying t with
 | some (.struct fs)=>match fs[i]? with
   | some f=>(P.info? f.type).map (f.offset,·)
   | none=>none
 | _=>none
def Acq (i:TypeInfo) (z:V):Bool:=match i.zero with
 | some v=>cRd z v
 | none=>false
def Azb (P:Program) (m:Nat) (lo hi:Option X) (lo' hi':Option Operand) (t:TypeId):Bool:=match lo,hi,lo',hi' with
 | none,some (.c (.bool true)),none,none=>(match P.underlying t with
   | some (.array n e)=>Nat.beq m (1000000+n)&&(match P.info? e with | some fi=>fi.size==1 | none=>false)
   | _=>false)
 | _,_,_,_=>false
def Bv (P:Program) (N:Nat) (o:Oper):AOp->Bool
 | .mov d x=>o.dst==some d&&decide (d<N)&&(match o.op with | .move x'=>Be N x x' | .assign x'=>Be N x x' | _=>false)
 | .asg d x=>o.dst==some d&&decide (d<N)&&(match o.op with | .move x'=>Be N x x' | .assign x'=>Be N x x' | _=>false)
 | .slc d m x lo hi=>o.dst==some d&&decide (d<N)&&(match o.op with
   | .slice t x' lo' hi' none=>Be N x x'&&((Xf N lo lo'&&Xf N hi hi'&&decide (m<1000000)&&(match O5 P t with | some fi=>fi.size==m | none=>false)) || Azb P m lo hi lo' hi' t)
   | _=>false)
 | .pick d c x y=>o.dst==some d&&decide (d<N)&&(match o.op with | .pick c' x' y'=>Be N c c'&&Be N x x'&&Be N y y' | _=>false)
 | .bin d op x y=>o.dst==some d&&decide (d<N)&&(match o.op with | .binOp op' _ x' y' _=>op'==op&&Be N x x'&&Be N y y' | _=>false)
 | .binb d op x y=>o.dst==some d&&decide (d<N)&&(match o.op with | .binOp op' t x' y' _=>op'==op&&Be N x x'&&Be N y y'&&(match P.underlying t with | some .bool=>true | _=>false) | _=>false)
 | .un d op x=>o.dst==some d&&decide (d<N)&&(match o.op with | .unOp op' _ x'=>op'==op&&Be N x x' | _=>false)
 | .cnv d k x=>o.dst==some d&&decide (d<N)&&(match o.op with
   | .convert s t x'=>Be N x x'&&(match P.underlying s with | some (.int _)=>true | _=>false)&&(match P.underlying t with | some (.int k')=>k'==k | _=>false)
   | _=>false)
 | .len d x=>o.dst==some d&&decide (d<N)&&(match o.op with
   | .call { callee:= .builtin .len,args,argTypes }=>(match args.toList,argTypes.toList with | [x'],[t]=>Be N x x'&&(match P.underlying t with | some (.slice _)=>true | _=>false) | _,_=>false)
   | _=>false)
 | .slen d x=>o.dst==some d&&decide (d<N)&&(match o.op with
   | .call { callee:= .builtin .len,args,argTypes }=>(match args.toList,argTypes.toList with | [x'],[t]=>Be N x x'&&(match P.underlying t with | some .string=>true | _=>false) | _,_=>false)
   | _=>false)
 | .sidx d x i=>o.dst==some d&&decide (d<N)&&(match o.op with
   | .index t x' i'=>Be N x x'&&Be N i i'&&(match P.underlying t with | some .string=>true | _=>false)
   | _=>false)
 | .ext d x i=>o.dst==some d&&decide (d<N)&&(match o.op with | .extract x' i'=>Be N x x'&&i'==i | _=>false)
 | .iad d m x i=>o.dst==some d&&decide (d<N)&&(match o.op with
   | .indexAddr t x' i'=>Be N x x'&&Be N i i'&&(match O5 P t with | some fi=>fi.size==m | none=>false)
   | _=>false)
 | .fadr d off x=>o.dst==some d&&decide (d<N)&&(match o.op with
   | .fieldAddr t x' i=>Be N x x'&&(match Ast P t i with | some (off',fi)=>off'==off&&fi.size != 0 | none=>false)
   | _=>false)
 | .ld d n ag x=>o.dst==some d&&decide (d<N)&&(match o.op with | .load t x'=>Be N x x'&&Ag5 P t n ag | _=>false)
 | .st n x v=>o.dst==none&&(match o.op with
   | .store t x' v'=>Be N x x'&&Be N v v'&&(match P.info? t with | some fi=>fi.size==n | none=>false)
   | _=>false)
 | .box d x=>o.dst==some d&&decide (d<N)&&(match o.op with | .box _ x'=>Be N x x' | _=>false)
 | .alc d z=>o.dst==some d&&decide (d<N)&&(match o.op with | .alloc t=>(match P.info? t with | some fi=>Acq fi z | none=>false) | _=>false)
 | .mk d m z x=>o.dst==some d&&decide (d<N)&&(match o.op with
   | .makeSlice t (.tmp x1) (.tmp x2)=>x1==x2&&Be N x (.tmp x1)&&(match O5 P t with
     | some fi=>fi.size==m&&Acq fi z&&Em z.cells&&decide (z.cells.length=m)&&decide (fi.bytes<=1024)
     | none=>false)
   | .makeSlice t (.const (.int k1 n1)) (.const (.int k2 n2))=>k1==k2&&n1==n2&&Be N x (.const (.int k1 n1))&&(match O5 P t with
     | some fi=>fi.size==m&&Acq fi z&&Em z.cells&&decide (z.cells.length=m)&&decide (fi.bytes<=1024)
     | none=>false)
   | _=>false)
 | .mkc d m _ x=>o.dst==some d&&decide (d<N)&&(match o.op with
   | .makeSlice t (.const (.int _ n)) x2=>n==0&&Be N x x2&&(match O5 P t with
     | some fi=>fi.size==m&&fi.zero.isSome&&decide (fi.bytes<=1024)
     | none=>false)
   | _=>false)
 | .bsl d m ps=>o.dst==some d&&decide (d<N)&&(match o.op with
   | .buildSlice t n parts=>parts.toList.map (·.1)==List.range n&&Q7 N ps (parts.toList.map (·.2))&&(match O5 P t with
     | some fi=>fi.size==m&&fi.zero.isSome&&decide (0<m)&&decide (n*m<=16777216)
     | none=>false)
   | _=>false)
 | .bslr d m ps=>o.dst==some d&&decide (d<N)&&decide (d<100000)&&(match o.op with
   | .buildSlice t n parts=>parts.toList.map (·.1)==List.range n&&Q7 N ps (parts.toList.map (·.2))&&(match O5 P t with
     | some fi=>fi.size==m&&fi.zero.isSome&&decide (0<m)&&decide (n*m<=16777216)
     | none=>false)
   | _=>false)
 | .bld d z ps=>o.dst==some d&&decide (d<N)&&(match o.op with
   | .build t parts=>(match Ap9 P t,P.info? t with
     | some place,some fi=>Af5 N place ps parts.toList&&(match fi.zero with | some zv=>Awx z zv.cells.toList | none=>false)
     | _,_=>false)
   | _=>false)
 | .app d m x y=>o.dst==some d&&decide (d<N)&&(match o.op with
   | .call { callee:= .builtin .append,args,argTypes }=>(match args.toList,argTypes.toList with
     | [x',y'],[t,t']=>t==t'&&Be N x x'&&Be N y y'&&(match O5 P t with
       | some fi=>fi.size==m&&(match fi.zero with | some z=>z.cells.size==m | none=>false)&&decide (fi.bytes<=1024)
       | none=>false)
     | _,_=>false)
   | _=>false)
 | .apf d m x y _=>o.dst==some d&&decide (d<N)&&(match o.op with
   | .call { callee:= .builtin .append,args,argTypes }=>(match args.toList,argTypes.toList with
     | [x',y'],[t,t']=>t==t'&&Be N x x'&&Be N y y'&&(match O5 P t with
       | some fi=>fi.size==m&&(match fi.zero with | some z=>z.cells.size==m | none=>false)&&decide (fi.bytes<=1024)
       | none=>false)
     | _,_=>false)
   | _=>false)
 | .nck d x=>o.dst==some d&&decide (d<N)&&(match o.op with | .nilCheck x'=>Be N x x' | _=>false)
 | .mkf d f cs=>o.dst==some d&&decide (d<N)&&(match o.op with | .makeFunc (.func f') first cs'=>f'==f&&first.isEmpty&&Q7 N cs cs'.toList | _=>false)
 | .mkm d _=>o.dst==some d&&decide (d<N)&&(match o.op with | .makeMap _ none=>true | _=>false)
 | .mlk d x k z ok kd=>o.dst==some d&&decide (d<N)&&(match o.op with
   | .lookup t x' k' ok'=>ok'==ok&&Be N x x'&&Be N k k'&&(match Avt P kd t with | some fi=>Acq fi z.v | none=>false)
   | _=>false)
 | .mup m k v kd=>o.dst==none&&(match o.op with
   | .mapUpdate t m' k' v'=>Be N m m'&&Be N k k'&&Be N v v'&&(Avt P kd t).isSome
   | .insert t m' k' v'=>Be N m m'&&Be N k k'&&Be N v v'&&(Avt P kd t).isSome
   | _=>false)
 | .bstr d x=>o.dst==some d&&decide (d<N)&&(match o.op with
   | .convert s t x'=>Be N x x'&&(match P.underlying s with | some (.slice e)=>(match P.underlying e with | some (.int .u8)=>true | _=>false) | _=>false)&&(match P.underlying t with | some .string=>true | _=>false)
   | _=>false)
 | _=>false
theorem Gd {P t fi} (h:O5 P t=some fi) : ∃e,P.underlying t=some (.slice e)/\P.info? e=some fi:=by
 unfold O5 at h;split at h
 ·exact ⟨_,by assumption,h⟩
 cases h
theorem R6 {α:Type} {a:Array α} {x:α} (h:a.toList=[x]):a = #[x]:=by apply Array.toList_inj.1;simpa using h
theorem R8 {α:Type} {a:Array α} {x y:α} (h:a.toList=[x,y]):a = #[x,y]:=by apply Array.toList_inj.1;simpa using h
theorem U6 {P:Program} {o:Oper} {ao:AOp} {σ σ' a w O gv N vals fp} (hf:Bv P N o ao=true) (h:Ok σ a w O gv N vals fp) (hs:Ds ao σ=some σ') :
  B4 P o σ' a w O gv N fp:=by
 cases ao with
 | mov d x=>
   simp only [Bv,Bool.and_eq_true,beq_iff_eq,decide_eq_true_eq] at hf;obtain ⟨⟨hd,hN⟩,hf⟩:=hf;simp only [Ds,Option.some.injEq] at hs;subst hs;split at hf
   ·exact A19 h (.inl (by assumption)) hd hN hf
   ·exact A19 h (.inr (by assumption)) hd hN hf
   ·cases hf
 | asg d x=>
   simp only [Bv,Bool.and_eq_true,beq_iff_eq,decide_eq_true_eq] at hf;obtain ⟨⟨hd,hN⟩,hf⟩:=hf;split at hf
   ·exact A2q h (.inl (by assumption)) hd hN hf hs
   ·exact A2q h (.inr (by assumption)) hd hN hf hs
   ·cases hf
 | pick d c x y=>
   simp only [Bv,Bool.and_eq_true,beq_iff_eq,decide_eq_true_eq] at hf;obtain ⟨⟨hd,hN⟩,hf⟩:=hf;split at hf
   case h_2=>cases hf
   simp only [Bool.and_eq_true] at hf;exact A5f h (by assumption) hd hN hf.1.1 hf.1.2 hf.2 hs
 | bin d op x y=>
   simp only [Bv,Bool.and_eq_true,beq_iff_eq,decide_eq_true_eq] at hf;obtain ⟨⟨hd,hN⟩,hf⟩:=hf;split at hf
   case h_2=>cases hf
   rename_i op' t x' y' yt ho;simp only [Bool.and_eq_true,beq_iff_eq] at hf;obtain ⟨⟨rfl,hx⟩,hy⟩:=hf;simp only [Ds,A70] at hs;split at hs
   case h_2=>cases hs
   rename_i u hu;split at hs
   ·cases hs
   ·rename_i hb;exact A3u h ho hd hN hx hy (by intro u' b h1 h2;rw [hu] at h1;cases h1;subst h2;exact absurd rfl hb) hs
 | binb d op x y=>
   simp only [Bv,Bool.and_eq_true,beq_iff_eq,decide_eq_true_eq] at hf;obtain ⟨⟨hd,hN⟩,hf⟩:=hf;split at hf
   case h_2=>cases hf
   rename_i op' t x' y' yt ho;simp only [Bool.and_eq_true,beq_iff_eq] at hf;obtain ⟨⟨⟨rfl,hx⟩,hy⟩,ht⟩:=hf;split at ht
   case h_2=>cases ht
   exact A3u h ho hd hN hx hy (by intros;assumption) hs
 | un d op x=>
   simp only [Bv,Bool.and_eq_true,beq_iff_eq,decide_eq_true_eq] at hf;obtain ⟨⟨hd,hN⟩,hf⟩:=hf;split at hf
   case h_2=>cases hf
   simp only [Bool.and_eq_true,beq_iff_eq] at hf;obtain ⟨rfl,hx⟩:=hf;exact A8y h (by assumption) hd hN hx hs
 | cnv d k x=>
   simp only [Bv,Bool.and_eq_true,beq_iff_eq,decide_eq_true_eq] at hf;obtain ⟨⟨hd,hN⟩,hf⟩:=hf;split at hf
   case h_2=>cases hf
   rename_i s t x' ho;simp only [Bool.and_eq_true] at hf;obtain ⟨⟨hx,h1⟩,h2⟩:=hf;split at h1
   case h_2=>cases h1
   rename_i k1 e1;split at h2
   case h_2=>cases h2
   rename_i k2 e2;simp only [beq_iff_eq] at h2;subst h2;exact A7e h ho hd hN e1 e2 hx hs
 | len d x=>
   simp only [Bv,Bool.and_eq_true,beq_iff_eq,decide_eq_true_eq] at hf;obtain ⟨⟨hd,hN⟩,hf⟩:=hf;split at hf
   case h_2=>cases hf
   rename_i args ats ho;split at hf
   case h_2=>cases hf
   rename_i x' t h1 h2;simp only [Bool.and_eq_true] at hf;obtain ⟨hx,ht⟩:=hf;split at ht
   case h_2=>cases ht
   rw [R6 h1,R6 h2] at ho;exact A7q h ho hd hN hx (by assumption) hs
 | slen d x=>
   simp only [Bv,Bool.and_eq_true,beq_iff_eq,decide_eq_true_eq] at hf;obtain ⟨⟨hd,hN⟩,hf⟩:=hf;split at hf
   case h_2=>cases hf
   rename_i args ats ho;split at hf
   case h_2=>cases hf
   rename_i x' t h1 h2;simp only [Bool.and_eq_true] at hf;obtain ⟨hx,ht⟩:=hf;split at ht
   case h_2=>cases ht
   rw [R6 h1,R6 h2] at ho;exact A43 h ho hd hN hx (by assumption) hs
 | sidx d x i=>
   simp only [Bv,Bool.and_eq_true,beq_iff_eq,decide_eq_true_eq] at hf;obtain ⟨⟨hd,hN⟩,hf⟩:=hf;split at hf
   case h_2=>cases hf
   simp only [Bool.and_eq_true] at hf;obtain ⟨⟨hx,hi⟩,ht⟩:=hf;split at ht
   case h_2=>cases ht
   exact A6e h (by assumption) hd hN hx hi (by assumption) hs
 | ext d x i=>
   simp only [Bv,Bool.and_eq_true,beq_iff_eq,decide_eq_true_eq] at hf;obtain ⟨⟨hd,hN⟩,hf⟩:=hf;split at hf
   case h_2=>cases hf
   simp only [Bool.and_eq_true,beq_iff_eq] at hf;obtain ⟨hx,rfl⟩:=hf;exact A72 h (by assumption) hd hN hx hs
 | iad d m x i=>
   simp only [Bv,Bool.and_eq_true,beq_iff_eq,decide_eq_true_eq] at hf;obtain ⟨⟨hd,hN⟩,hf⟩:=hf;split at hf
   case h_2=>cases hf
   simp only [Bool.and_eq_true] at hf;obtain ⟨⟨hx,hi⟩,ht⟩:=hf;split at ht
   case h_2=>cases ht
   rename_i fi hts;obtain ⟨e,h1,h2⟩:=Gd hts;exact A7o h (by assumption) hd hN hx hi h1 h2 (by simpa using ht) hs
 | fadr d off x=>
   simp only [Bv,Bool.and_eq_true,beq_iff_eq,decide_eq_true_eq] at hf;obtain ⟨⟨hd,hN⟩,hf⟩:=hf;split at hf
   case h_2=>cases hf
   simp only [Bool.and_eq_true] at hf;obtain ⟨hx,ht⟩:=hf;split at ht
   case h_2=>cases ht
   rename_i off' fi hts;simp only [Bool.and_eq_true,beq_iff_eq,bne_iff_ne] at ht;obtain ⟨rfl,hz⟩:=ht;unfold Ast at hts;split at hts
   case h_2=>cases hts
   rename_i fs hu;split at hts
   case h_2=>cases hts
   rename_i f hfi;obtain ⟨fi',h1,h2⟩:=Option.map_eq_some_iff.1 hts;cases h2;exact A49 h (by assumption) hd hN hx hu hfi rfl h1 hz hs
 | ld d n ag x=>
   simp only [Bv,Bool.and_eq_true,beq_iff_eq,decide_eq_true_eq] at hf;obtain ⟨⟨hd,hN⟩,hf⟩:=hf;split at hf
   case h_2=>cases hf
   simp only [Bool.and_eq_true] at hf;exact A8r h (by assumption) hd hN hf.1 hf.2 hs
 | st n x v=>
   simp only [Bv,Bool.and_eq_true,beq_iff_eq] at hf;obtain ⟨hd,hf⟩:=hf;split at hf
   case h_2=>cases hf
   simp only [Bool.and_eq_true] at hf;obtain ⟨⟨hx,hv⟩,ht⟩:=hf;split at ht
   case h_2=>cases ht
   exact A2r h (by assumption) hd hx hv (by assumption) (by simpa using ht) hs
 | box d x=>
   simp only [Bv,Bool.and_eq_true,beq_iff_eq,decide_eq_true_eq] at hf;obtain ⟨⟨hd,hN⟩,hf⟩:=hf;split at hf
   case h_2=>cases hf
   exact A60 h (by assumption) hd hN hf hs
 | alc d z=>
   simp only [Bv,Bool.and_eq_true,beq_iff_eq,decide_eq_true_eq] at hf;obtain ⟨⟨hd,hN⟩,hf⟩:=hf;split at hf
   case h_2=>cases hf
   split at hf
   case h_2=>cases hf
   unfold Acq at hf;split at hf
   case h_2=>cases hf
   exact A75 h (by assumption) hd hN (by assumption) (by assumption) hf hs
 | mk d m z x=>
   simp only [Bv,Bool.and_eq_true,beq_iff_eq,decide_eq_true_eq] at hf;obtain ⟨⟨hd,hN⟩,hf⟩:=hf;split at hf
   case h_3=>cases hf
   ·rename_i t x1 x2 ho;simp only [Bool.and_eq_true,beq_iff_eq] at hf;obtain ⟨⟨rfl,hx⟩,ht⟩:=hf;split at ht
    case h_2=>cases ht
    rename_i fi hts;simp only [Bool.and_eq_true,beq_iff_eq,decide_eq_true_eq] at ht;obtain ⟨⟨⟨⟨h1,h2⟩,h3⟩,h4⟩,h5⟩:=ht;obtain ⟨e,g1,g2⟩:=Gd hts;unfold Acq at h2;split at h2
    case h_2=>cases h2
    exact A6p h ho hd hN hx g1 g2 h1 (by assumption) h2 h3 h4 h5 hs
   ·rename_i t k1 n1 k2 n2 ho;simp only [Bool.and_eq_true,beq_iff_eq] at hf;obtain ⟨⟨⟨rfl,rfl⟩,hx⟩,ht⟩:=hf;split at ht
    case h_2=>cases ht
    rename_i fi hts;simp only [Bool.and_eq_true,beq_iff_eq,decide_eq_true_eq] at ht;obtain ⟨⟨⟨⟨h1,h2⟩,h3⟩,h4⟩,h5⟩:=ht;obtain ⟨e,g1,g2⟩:=Gd hts;unfold Acq at h2;split at h2
    case h_2=>cases h2
    exact A6p h ho hd hN hx g1 g2 h1 (by assumption) h2 h3 h4 h5 hs
 | mkc d m z x=>
   simp only [Bv,Bool.and_eq_true,beq_iff_eq,decide_eq_true_eq] at hf;obtain ⟨⟨hd,hN⟩,hf⟩:=hf;split at hf
   case h_2=>cases hf
   rename_i t k0 n0 x2 ho;simp only [Bool.and_eq_true,beq_iff_eq] at hf;obtain ⟨⟨rfl,hx⟩,ht⟩:=hf;split at ht
   case h_2=>cases ht
   rename_i fi hts;simp only [Bool.and_eq_true,beq_iff_eq,decide_eq_true_eq] at ht;obtain ⟨⟨h1,h2⟩,h5⟩:=ht;obtain ⟨e,g1,g2⟩:=Gd hts;obtain ⟨zv,hz⟩:=Option.isSome_iff_exists.1 h2;exact A6z h ho hd hN hx g1 g2 h1 hz h5 hs
 | bsl d m ps=>
   simp only [Bv,Bool.and_eq_true,beq_iff_eq,decide_eq_true_eq] at hf;obtain ⟨⟨hd,hN⟩,hf⟩:=hf;split at hf
   case h_2=>cases hf
   rename_i t n parts ho;simp only [Bool.and_eq_true,beq_iff_eq] at hf;obtain ⟨⟨h1,h2⟩,ht⟩:=hf;split at ht
   case h_2=>cases ht
   rename_i fi hts;simp only [Bool.and_eq_true,beq_iff_eq,decide_eq_true_eq] at ht;obtain ⟨⟨⟨g1,g2⟩,g3⟩,g4⟩:=ht;obtain ⟨e,k1,k2⟩:=Gd hts;obtain ⟨z,hz⟩:=Option.isSome_iff_exists.1 g2;exact A3p h ho hd hN h1 h2 k1 k2 g1 hz g3 g4 hs
 | bslr d m ps=>
   simp only [Bv,Bool.and_eq_true,beq_iff_eq,decide_eq_true_eq] at hf;obtain ⟨⟨⟨hd,hN⟩,hsm⟩,hf⟩:=hf;obtain ⟨U,σ1,hs1,rfl⟩:=Ax4 hs;split at hf
   case h_2=>cases hf
   rename_i t n parts ho;simp only [Bool.and_eq_true,beq_iff_eq] at hf;obtain ⟨⟨h1,h2⟩,ht⟩:=hf;split at ht
   case h_2=>cases ht
   rename_i fi hts;simp only [Bool.and_eq_true,beq_iff_eq,decide_eq_true_eq] at ht;obtain ⟨⟨⟨g1,g2⟩,g3⟩,g4⟩:=ht;obtain ⟨e,k1,k2⟩:=Gd hts;obtain ⟨z,hz⟩:=Option.isSome_iff_exists.1 g2;exact (A3p h ho hd hN h1 h2 k1 k2 g1 hz g3 g4 hs1).frzd hsm
 | bld d z ps=>
   simp only [Bv,Bool.and_eq_true,beq_iff_eq,decide_eq_true_eq] at hf;obtain ⟨⟨hd,hN⟩,hf⟩:=hf;split at hf
   case h_2=>cases hf
   rename_i t parts ho;split at hf
   case h_2=>cases hf
   rename_i place fi hp hfi;simp only [Bool.and_eq_true] at hf;obtain ⟨h1,h2⟩:=hf;split at h2
   case h_2=>cases h2
   exact A7j h ho hd hN hp h1 hfi (by assumption) h2 hs
 | app d m x y=>
   simp only [Bv,Bool.and_eq_true,beq_iff_eq,decide_eq_true_eq] at hf;obtain ⟨⟨hd,hN⟩,hf⟩:=hf;split at hf
   case h_2=>cases hf
   rename_i args ats ho;split at hf
   case h_2=>cases hf
   rename_i x' y' t t' h1 h2;simp only [Bool.and_eq_true,beq_iff_eq] at hf;obtain ⟨⟨⟨rfl,hx⟩,hy⟩,ht⟩:=hf;split at ht
   case h_2=>cases ht
   rename_i fi hts;simp only [Bool.and_eq_true,beq_iff_eq,decide_eq_true_eq] at ht;obtain ⟨⟨g1,g2⟩,g3⟩:=ht;split at g2
   case h_2=>cases g2
   obtain ⟨e,k1,k2⟩:=Gd hts;rw [R8 h1,R8 h2] at ho;exact A68 h ho hd hN hx hy k1 k2 g1 (by assumption) (by simpa using g2) g3 hs
 | apf d m x y ef=>
   simp only [Bv,Bool.and_eq_true,beq_iff_eq,decide_eq_true_eq] at hf;obtain ⟨⟨hd,hN⟩,hf⟩:=hf;split at hf
   case h_2=>cases hf
   rename_i args ats ho;split at hf
   case h_2=>cases hf
   rename_i x' y' t t' h1 h2;simp only [Bool.and_eq_true,beq_iff_eq] at hf;obtain ⟨⟨⟨rfl,hx⟩,hy⟩,ht⟩:=hf;split at ht
   case h_2=>cases ht
   rename_i fi hts;simp only [Bool.and_eq_true,beq_iff_eq,decide_eq_true_eq] at ht;obtain ⟨⟨g1,g2⟩,g3⟩:=ht;split at g2
   case h_2=>cases g2
   obtain ⟨e,k1,k2⟩:=Gd hts;rw [R8 h1,R8 h2] at ho;exact A73 h ho hd hN hx hy k1 k2 g1 (by assumption) (by simpa using g2) g3 hs
 | nck d x=>
   simp only [Bv,Bool.and_eq_true,beq_iff_eq,decide_eq_true_eq] at hf;obtain ⟨⟨hd,hN⟩,hf⟩:=hf;split at hf
   case h_2=>cases hf
   exact A62 h (by assumption) hd hN hf hs
 | mkf d f cs=>
   simp only [Bv,Bool.and_eq_true,beq_iff_eq,decide_eq_true_eq] at hf;obtain ⟨⟨hd,hN⟩,hf⟩:=hf;split at hf
   case h_2=>cases hf
   rename_i f' first cs' ho
   simp only [Bool.and_eq_true,beq_iff_eq] at hf;obtain ⟨⟨rfl,he⟩,hx⟩:=hf;have:first = #[]:=by simpa using he
   subst this;simp only [Ds,Option.some.injEq] at hs;subst hs;exact A7r h ho hd hN hx
 | slc d m x lo hi=>
   simp only [Bv,Bool.and_eq_true,beq_iff_eq,decide_eq_true_eq] at hf;obtain ⟨⟨hd,hN⟩,hf⟩:=hf;split at hf
   case h_2=>cases hf
   rename_i ho;simp only [Bool.and_eq_true,Bool.or_eq_true,decide_eq_true_eq] at hf;obtain ⟨hx,hf⟩:=hf;rcases hf with ⟨⟨⟨hlo,hhi⟩,hm6⟩,hty⟩ | hf
   ·split at hty
    case h_2=>cases hty
    rename_i fi hts;obtain ⟨e,k1,k2⟩:=Gd hts;exact A65 h (by assumption) hd hN hx hlo hhi k1 k2 (by simpa using hty) hm6 hs
   ·unfold Azb at hf;split at hf
    case h_2=>cases hf
    split at hf
    case h_2=>cases hf
    rename_i n e hu;simp only [Bool.and_eq_true] at hf;obtain ⟨hmn,hsz⟩:=hf;split at hsz
    case h_2=>cases hsz
    rename_i fi hi2;exact A7u h ho hd hN hx hu hi2 (by simpa using hsz) (Nat.eq_of_beq_eq_true hmn) hs
 | call d f as=>simp [Bv] at hf
 | cally d x as ms=>simp [Bv] at hf
 | mkm d kd=>
   simp only [Bv,Bool.and_eq_true,beq_iff_eq,decide_eq_true_eq] at hf;obtain ⟨⟨hd,hN⟩,hf⟩:=hf;split at hf
   case h_2=>cases hf
   simp only [Ds,A8x,Option.some.injEq] at hs;subst hs;exact A7x h (by assumption) hd hN
 | mlk d x k z ok kd=>
   simp only [Bv,Bool.and_eq_true,beq_iff_eq,decide_eq_true_eq] at hf;obtain ⟨⟨hd,hN⟩,hf⟩:=hf;split at hf
   case h_2=>cases hf
   rename_i t x' k' ok' ho;simp only [Bool.and_eq_true,beq_iff_eq] at hf;obtain ⟨⟨⟨rfl,hx⟩,hk⟩,hz⟩:=hf;split at hz
   case h_2=>cases hz
   rename_i fi hfi;obtain ⟨kt,et,k1,k2,k3⟩:=Af0 hfi;unfold Acq at hz;split at hz
   case h_2=>cases hz
   rename_i zv hzv;exact A7g h ho hd hN k1 k2 k3 hzv hz hx hk hs
 | mup m k v kd=>
   simp only [Bv,Bool.and_eq_true,beq_iff_eq] at hf;obtain ⟨hd,hf⟩:=hf;split at hf
   case h_3=>cases hf
   ·rename_i t m' k' v' ho;simp only [Bool.and_eq_true] at hf;obtain ⟨⟨⟨hm,hk⟩,hv⟩,ht⟩:=hf;obtain ⟨fi,hfi⟩:=Option.isSome_iff_exists.1 ht;obtain ⟨kt,et,k1,k2,k3⟩:=Af0 hfi;exact A4h h (.inl ho) hd k1 k2 hm hk hv hs
   ·rename_i t m' k' v' ho;simp only [Bool.and_eq_true] at hf;obtain ⟨⟨⟨hm,hk⟩,hv⟩,ht⟩:=hf;obtain ⟨fi,hfi⟩:=Option.isSome_iff_exists.1 ht;obtain ⟨kt,et,k1,k2,k3⟩:=Af0 hfi;exact A4h h (.inr ho) hd k1 k2 hm hk hv hs
 | bstr d x=>
   simp only [Bv,Bool.and_eq_true,beq_iff_eq,decide_eq_true_eq] at hf;obtain ⟨⟨hd,hN⟩,hf⟩:=hf;split at hf
   case h_2=>cases hf
   rename_i s t x' ho;simp only [Bool.and_eq_true] at hf;obtain ⟨⟨hx,h1⟩,h2⟩:=hf;split at h1
   case h_2=>cases h1
   rename_i e h3;split at h1
   case h_2=>cases h1
   rename_i h4;split at h2
   case h_2=>cases h2
   rename_i h5;exact A4w h ho hd hN h3 h4 h5 hx hs
end Go.Proofs.Ytaalgpkajkogkaa.Ax
namespace Go.Proofs.Ytaalgpkajkogkaa.Ax
open Go
mutual
def V.noFz:V->Bool
 | .sl o _ xs=>(o&&Bq xs) || xs.isEmpty
 | .ptr o x=>o&&x.noFz
 | .agg cs=>Bq cs
 | .tup cs=>Bq cs
 | .clo _ cs=>Bq cs
 | .fclo _ _=>false
 | .int _ _=>true
 | .bool _=>true
 | .str _=>true
 | .nilp=>true
 | .nilsl _=>true
 | .nl _=>true
 | .es _=>true
 | .clov _ _ cs=>Bq cs
 | .raw _=>true
 | .dead=>true
 | .mp o _=>o
def Bq:List V->Bool
 | []=>true
 | v::r=>v.noFz&&Bq r
end
theorem Aum (xs ys:List V):Bq (xs++ys)=(Bq xs&&Bq ys):=by
 induction xs with
 | nil=>simp [Bq]
 | cons x r ih=>simp [Bq,ih,Bool.and_assoc]
theorem Apv {x:V} (h:x.noFz=true):Bq x.cells=true:=by cases x<;>simp [V.cells,Bq]<;>first | exact h | (simpa [V.noFz] using h)
theorem Axi {xs:List V} (h:Bq xs=true):Bq (Bo xs)=true:=by
 induction xs with
 | nil=>rfl
 | cons x r ih=> simp [Bq] at h;simp only [Bo,Aum,Apv h.1,ih h.2,Bool.and_self]
theorem RdL.retag {w:World} {O O':Nat->Prop} {xs vs fp} (h:RdL w O xs vs fp) (hn:Bq xs=true) (hO : ∀b∈fp,O' b):RdL w O' xs vs fp:=by
 induction h with
 | nil=>exact .nil
 | leaf h _ ih=>simp [Bq] at hn;exact .leaf h (ih hn.2 hO)
 | grp h _ _ ih1 ih2=> simp [Bq] at hn;refine .grp h (ih1 ?_ λb hb=>hO b (by simp [hb])) (ih2 hn.2 λb hb=>hO b (by simp [hb]));cases h<;>simpa [V.noFz] using hn.1
 | @fblk x v b off k ch vch xs vs fp h hc hO' s t ih1 ih2=>
   simp [Bq] at hn;cases h with
   | sl _ m ys _ _ cap hm hcap=>
     have:ys=[]:=by simpa [V.noFz] using hn.1
     subst this;have hv:vch=[]:=by have:=s.length;simpa [Bo] using this
     subst hv;exact .fblk (.sl false m [] b off cap hm hcap) hc ⟨.inl rfl,rfl⟩ (by simpa [Bo] using .nil) (ih2 hn.2 hO)
   | ptr=>simp [V.noFz] at hn
 | @oblk x v b k ch arr e fp1 xs vs fp2 h hb hO' hk s t ih1 ih2=>
   simp [Bq] at hn;refine .oblk h hb (hO b (by simp)) hk (ih1 ?_ λc hc=>hO c (by simp [hc])) (ih2 hn.2 λc hc=>hO c (by simp [hc]));cases h with
   | sl _ m ys _ _ cap hm hcap=>
     have:=hn.1;simp [V.noFz] at this;rcases this with h | h
     ·exact Axi h
     ·subst h;rfl
   | ptr _ y _ _=>exact Apv (by simpa [V.noFz] using hn.1)
 | mpf _ _ _ _=>simp [Bq,V.noFz] at hn
 | @mpo es b ents ck xs vs fp hb he hO' t ih=>simp [Bq] at hn;exact .mpo hb he (hO b (by simp)) (ih hn.2 λc hc=>hO c (by simp [hc]))
mutual
def Qm (σ:St):A->Option V
 | .val v=>some v.fz
 | .ref r p=>(Cd σ r p).map V.fz
 | .agg as=>(Ah7 σ as).map .agg
 | .clo f as=>(Ah7 σ as).map (.fclo f)
 | .top=>none
 | .rfv _ _ _=>none
 | .addr _ _ _=>none
 | .fad _=>none
def Ah7 (σ:St):List A->Option (List V)
 | []=>some []
 | a::r=>match Qm σ a,Ah7 σ r with
   | some v,some vs=>some (v::vs)
   | _,_=>none
end
mutual
def A.roots:A->List Nat
 | .ref r _=>[r]
 | .rfv _ r _=>[r]
 | .addr r _ _=>[r]
 | .agg as=>Gh as
 | .clo _ as=>Gh as
 | .top=>[]
 | .val _=>[]
 | .fad _=>[]
def Gh:List A->List Nat
 | []=>[]
 | a::r=>a.roots++Gh r
end
theorem Atg {σ a w O gv N vals fp} (h:Ok σ a w O gv N vals fp) {O2:Nat->Prop} (h1 : ∀b,¬O b->b<w.heap.size->¬O2 b) : ∀ {as vs Us},RelL w O (look σ) vals as vs->Ah7 σ as=some Us ->
  (∀r∈Gh as,∀b∈fp r,¬O2 b)->RdL w O2 Us vs []:=by
 have step : ∀ {a r Us},Ah7 σ (a::r)=some Us -> ∃u us,Qm σ a=some u/\Ah7 σ r=some us/\Us=u::us:=by
  intro a r Us hh;simp only [Ah7] at hh;split at hh
  ·cases hh;exact ⟨_,_,by assumption,by assumption,rfl⟩
  ·cases hh
 intro as vs Us hr
 induction hr generalizing Us with
 | nil=>intro hs _;simp [Ah7] at hs;subst hs;exact .nil
 | top _ ih=>intro hs _;obtain ⟨u,us,h2,_,_⟩:=step hs;simp [Qm] at h2
 | rfv _ _ _ _ ih=>intro hs _;obtain ⟨u,us,h2,_,_⟩:=step hs;simp [Qm] at h2
 | @val x v as vs hn hr t ih=> intro hs hR;obtain ⟨u,us,h2,h3,rfl⟩:=step hs;simp [Qm] at h2;subst h2;have:=hr.fz (O2:=O2) (by simp) h1;simpa [fzL] using this.append (ih h3 λr hr=>hR r (by simp [Gh,hr]))
 | @ref r p T u v as vs hL hsu hv t ih=> intro hs hR;obtain ⟨u',us,h2,h3,rfl⟩:=step hs;simp [Qm,Cd,hL,hsu] at h2;subst h2;obtain ⟨z,f1,fu,f2,e,hz,hru,_⟩:=ctx p (h.sim.own r T hL) hsu;rw [hv] at hz;cases hz;have:=hru.fz (O2:=O2) (λb hb=>hR r (by simp [Gh,A.roots]) b (by rw [e];simp [hb])) h1;simpa [fzL] using this.append (ih h3 λr hr=>hR r (by simp [Gh,hr]))
 | addr=>intro hs _;obtain ⟨u,us,h2,_,_⟩:=step hs;simp [Qm] at h2
 | fad=>intro hs _;obtain ⟨u,us,h2,_,_⟩:=step hs;simp [Qm] at h2
 | @agg bs us' as vs s t ih1 ih2=> intro hs hR;obtain ⟨u,us,h2,h3,rfl⟩:=step hs;simp only [Qm] at h2;obtain ⟨ws,h4,rfl⟩:=Option.map_eq_some_iff.1 h2;exact .grp (fp1:=[]) (fp2:=[]) (.agg _ _) (ih1 h4 λr hr=>hR r (by simp [Gh,A.roots,hr])) (ih2 h3 λr hr=>hR r (by simp [Gh,hr]))
 | @clo f bs us' as vs s t ih1 ih2=> intro hs hR;obtain ⟨u,us,h2,h3,rfl⟩:=step hs;simp only [Qm] at h2;obtain ⟨ws,h4,rfl⟩:=Option.map_eq_some_iff.1 h2;exact .grp (fp1:=[]) (fp2:=[]) (.fclo _ _ _ _ rfl) ((ih1 h4 λr hr=>hR r (by simp [Gh,A.roots,hr])).fz (by simp) (λ_ hb _=>hb)) (ih2 h3 λr hr=>hR r (by simp [Gh,hr]))
def Vv (σ:St):A->Option (Nat×List Nat×V)
 | .ref r p=>match Cd σ r p with
   | some u=>if u.node then some (r,p,u) else none
   | none=>none
 | _=>none
def Ft (σ:St):List (A×Bool)->Nat->Option (List V×List (Nat×Nat×List Nat)×List Nat)
 | [],_=>some ([],[],[])
 | (a,io)::rest,k=>match Ft σ rest (k+1) with
   | none=>none
   | some (vs,ls,rs)=>match (if io then Vv σ a else none) with
     | some (r,p,u)=>some (u::vs,(k,r,p)::ls,rs)
     | none=>match Qm σ a with
       | some v=>some (v::vs,ls,a.roots++rs)
       | none=>none
def Tri (P:Program) (f:Nat) (args:List V) (R:V->List V->Prop):Prop:=
 ∀(w:World) (O:Nat->Prop) (vals:List Value) (fp:List Nat),RdL w O args vals fp->fp.Nodup ->
   (∃fn c,P.funcs[f]? = some fn∧(fn.name == "runtime.NumGoroutine")=false∧fn.body=some c) ∧
   Calls P f vals.toArray w λe w' => ∃res outs rv O' fpr fpo,R res outs/\e = .returned rv/\RdL w' O' [res] [rv] fpr/\RdL w' O' outs vals fpo/\(fpr++fpo).Nodup /\
    Mv w O (· ∈ fp) w' O' (· ∈ fpr++fpo)
theorem Tri.mono {P f args} {R R':V->List V->Prop} (h:Tri P f args R) (hr : ∀r o,R r o->R' r o):Tri P f args R':=by intro w O vals fp h1 h2;obtain ⟨h3,h4⟩:=h w O vals fp h1 h2;refine ⟨h3,h4.mono ?_⟩;rintro e w' ⟨res,outs,rv,O',fpr,fpo,hR,rest⟩;exact ⟨res,outs,rv,O',fpr,fpo,hr _ _ hR,rest⟩
def Co (rs:List Nat) (v:V):Bool:=rs.isEmpty || v.noFz
def Ov (v:V):Nat:=match v.node with
 | true=>1
 | false=>0
theorem Akx {v:V} (h:v.node=true):Ov v=1:=by simp [Ov,h]
def A78 (p1 p2:List Nat) (T o1 o2:V):Option V:=match upd p1 T .dead with
 | some T1=>match upd p2 T1 o2 with
   | some T2=>upd p1 T2 o1
   | none=>none
 | none=>none
def Avn (r1:Nat) (p1:List Nat) (r2:Nat) (p2:List Nat) (o1 o2:V) (σ:St):Option St:=match Nat.beq r1 r2 with
 | true=>match look σ r1 with
   | .val T=>match A78 p1 p2 T o1 o2 with
     | some T'=>some (K6 r1 T' (min (p1.length+Ov o1) (p2.length+Ov o2)) σ)
     | none=>none
   | _=>none
 | false=>match look σ r1,look σ r2 with
   | .val T1,.val T2=>match upd p1 T1 o1,upd p2 T2 o2 with
     | some T1',some T2'=>some (K6 r2 T2' (p2.length+Ov o2) (K6 r1 T1' (p1.length+Ov o1) σ))
     | _,_=>none
   | _,_=>none
def Ga (d:Nat) (ls:List (Nat×Nat×List Nat)) (rs:List Nat) (K:St->Prop) (σ:St) (res:V) (outs:List V):Prop:=
 match ls with
 | []=>Co rs res=true/\K (A4 d (.val res) σ)
 | [(k,r,p)]=>Co rs res=true/\(match outs[k]?,look σ r with
   | some out,.val T=>Co rs out=true/\(match upd p T out with
     | some T'=>K (A4 d (.val res) (K6 r T' (p.length+Ov out) σ))
     | none=>False)
   | _,_=>False)
 | [(k1,r1,p1),(k2,r2,p2)]=>Co rs res=true/\(match outs[k1]?,outs[k2]? with
   | some o1,some o2=>(Co rs o1&&Co rs o2)=true/\(match Avn r1 p1 r2 p2 o1 o2 σ with
     | some σ'=>K (A4 d (.val res) σ')
     | none=>False)
   | _,_=>False)
 | _=>False
def Ayc (r1:Nat) (p1:List Nat) (r2:Nat) (p2:List Nat) (T:A):Bool:=match Nat.beq r1 r2 with
 | false=>true
 | true => !To p1 p2 && !To p2 p1&&(match T with
   | .val T=>(match upd p1 T .dead with
     | some T1=>(upd p2 T1 .dead).isSome
     | none=>false)
   | _=>false)
def Nk (σ:St) (ls:List (Nat×Nat×List Nat)) (rs:List Nat):Bool:=match ls with
 | []=>true
 | [(_,r,_)] => !rs.contains r
 | [(_,r1,p1),(_,r2,p2)] => !rs.contains r1 && !rs.contains r2&&Ayc r1 p1 r2 p2 (look σ r1)
 | _=>false
def Ax1:Option Nat->List V->V
 | none,cs=> .agg cs
 | some f,cs=> .clo f cs
def A8t:Option Nat->List A->A
 | none,cs=> .agg cs
 | some f,cs=> .clo f cs
def Akn:Option Nat->List Value->Value
 | none,vs=> .agg vs.toArray
 | some f,vs=> .func (.func f) #[] vs.toArray
def unG:Option Nat->V->Option (List V)
 | none,.agg cs=>some cs
 | some f,.clo f' cs=>if f'=f then some cs else none
 | _,_=>none
theorem A2d {g:Option Nat} {v:V} {cs:List V} (h:unG g v=some cs):v=Ax1 g cs:=by
 unfold unG at h;split at h
 ·cases h;rfl
 ·split at h
  ·rename_i e;cases h;subst e;rfl
  cases h
 cases h
theorem A5z (g:Option Nat) (cs:List V):unG g (Ax1 g cs)=some cs:=by cases g<;>simp [unG,Ax1]
def Nm:List (A×Bool)->Option (List (A×Bool)×Option Nat×List A×List (A×Bool))
 | []=>none
 | (.agg bs,true)::rest=>some ([],none,bs,rest)
 | (.clo f bs,true)::rest=>some ([],some f,bs,rest)
 | e::rest=>match Nm rest with
   | some (pre,g,bs,r)=>some (e::pre,g,bs,r)
   | none=>none
def Xy (n:Nat) (g:Option Nat) (R:V->List V->Prop) (res:V) (outs:List V):Prop:=match outs.drop n with
 | v::o=>(match unG g v with
   | some cs=>R res (outs.take n++(cs++o))
   | none=>False)
 | _=>False
def Aw0 (n m:Nat) (g:Option Nat) (vs:List V):List V:=vs.take n++(Ax1 g ((vs.drop n).take m)::(vs.drop n).drop m)
def J5 (P:Program) (f d:Nat) (as:List (A×Bool)) (K:St->Prop) (σ:St):Prop:=
 match Nm as with
 | some (pre,g,bs,rest)=>(match Ft σ (pre++(bs.map (·,true)++rest)) 0 with
   | some (vs,ls,rs)=>Nk σ ls rs=true/\Tri P f (Aw0 pre.length bs.length g vs) (Xy pre.length g (Ga d ls rs K σ))
   | none=>False)
 | none=>match Ft σ as 0 with
   | some (vs,ls,rs)=>Nk σ ls rs=true/\Tri P f vs (Ga d ls rs K σ)
   | none=>False
theorem Ati : ∀ {as:List (A×Bool)} {pre:List (A×Bool)} {g:Option Nat} {bs:List A} {rest:List (A×Bool)},Nm as=some (pre,g,bs,rest)->as=pre++((A8t g bs,true)::rest):=by
 intro as
 induction as with
 | nil=>intro pre g bs rest h;simp [Nm] at h
 | cons e r ih=>
   intro pre g bs rest h;unfold Nm at h;split at h
   ·cases h
   ·rename_i e2;cases h;cases e2;rfl
   ·rename_i e2;cases h;cases e2;rfl
   ·rename_i e2;cases e2;split at h
    ·rename_i h2;cases h;rw [ih h2];rfl
    ·cases h
theorem Ahe : ∀ {as:List (A×Bool)},(∀e∈as,e.2=false)->Nm as=none:=by
 intro as
 induction as with
 | nil=>intro _;rfl
 | cons e r ih=>
   intro h;obtain ⟨a,io⟩:=e;have h1:io=false:=h (a,io) (by simp);subst h1;have h2:=ih λe he=>h e (by simp [he])
   unfold Nm;split
   ·rename_i e2;cases e2
   ·rename_i e2;cases e2
   ·rename_i e2;cases e2
   ·rename_i e2;cases e2;rw [h2]
def A5e (P:Program) (f:Nat) (args:List V) (vals uu:List Value) (R:V->List V->Prop):Prop:=
 ∀(w:World) (O:Nat->Prop) (fp:List Nat),RdL w O args vals fp->fp.Nodup ->
   (∃fn c,P.funcs[f]? = some fn∧(fn.name == "runtime.NumGoroutine")=false∧fn.body=some c) ∧
   Calls P f uu.toArray w λe w' => ∃res outs rv O' fpr fpo,R res outs/\e = .returned rv/\RdL w' O' [res] [rv] fpr/\RdL w' O' outs vals fpo/\(fpr++fpo).Nodup /\
    Mv w O (· ∈ fp) w' O' (· ∈ fpr++fpo)
def A74 (P:Program) (w:World) (O0:Nat->Prop) (f:Nat) (args:List V) (vals uu:List Value) (R:V->List V->Prop):Prop:=
 ∀(O:Nat->Prop) (fp:List Nat),(∀b,¬O0 b->b<w.heap.size->¬O b)->RdL w O args vals fp->fp.Nodup ->
   (∃fn c,P.funcs[f]? = some fn∧(fn.name == "runtime.NumGoroutine")=false∧fn.body=some c) ∧
   Calls P f uu.toArray w λe w' => ∃res outs rv O' fpr fpo,R res outs/\e = .returned rv/\RdL w' O' [res] [rv] fpr/\RdL w' O' outs vals fpo/\(fpr++fpo).Nodup /\
    Mv w O (· ∈ fp) w' O' (· ∈ fpr++fpo)
theorem A5e.toW {P w O0 f args vals uu R} (h:A5e P f args vals uu R):A74 P w O0 f args vals uu R:=λO fp _ h1 h2=>h w O fp h1 h2
def A6j (w:World) (O:Nat->Prop) (f m j:Nat) (vals:List Value):Prop:=
 ∃b o ex us ws,vals=ex++(us ++ .pointer (some ⟨b,o,none⟩)::ws)/\ex.length=m/\us.length=j /\
   w.cell? ⟨b,o,none⟩=some (.func (.func f) #[] (us ++ .pointer (some ⟨b,o,none⟩)::ws).toArray)/\¬O b
def A1a (P:Program) (f m j:Nat) (args:List V) (R:V->List V->Prop):Prop:=
 ∀(w:World) (O:Nat->Prop) (vals:List Value) (fp:List Nat),RdL w O args vals fp->fp.Nodup->A6j w O f m j vals ->
   (∃fn c,P.funcs[f]? = some fn∧(fn.name == "runtime.NumGoroutine")=false∧fn.body=some c) ∧
   Calls P f vals.toArray w λe w' => ∃res outs rv O' fpr fpo,R res outs/\e = .returned rv/\RdL w' O' [res] [rv] fpr/\RdL w' O' outs vals fpo/\(fpr++fpo).Nodup /\
    Mv w O (· ∈ fp) w' O' (· ∈ fpr++fpo)
theorem A1a.mono {P f m j args} {R R':V->List V->Prop} (h:A1a P f m j args R) (hr : ∀r o,R r o->R' r o):A1a P f m j args R':=by intro w O vals fp h1 h2 ht;obtain ⟨h3,h4⟩:=h w O vals fp h1 h2 ht;refine ⟨h3,h4.mono ?_⟩;rintro e w' ⟨res,outs,rv,O',fpr,fpo,hR,rest⟩;exact ⟨res,outs,rv,O',fpr,fpo,hr _ _ hR,rest⟩
theorem A1a.toW {P w O0 f m j args vals R} (h:A1a P f m j args R) (ht:A6j w O0 f m j vals):A74 P w O0 f args vals vals R:=by intro O fp hO h1 h2;obtain ⟨b,o,ex,us,ws,e1,e2,e3,hc,hb⟩:=ht;exact h w O vals fp h1 h2 ⟨b,o,ex,us,ws,e1,e2,e3,hc,hO b hb (Aik hc)⟩
theorem Tri.toL {P f args vals R} (h:Tri P f args R):A5e P f args vals vals R:=λw O fp h1 h2=>h w O vals fp h1 h2
theorem RdL.grp_inv {w O cs vs fp} (h:RdL w O [.agg cs] [.agg vs] fp):RdL w O cs vs.toList fp:=by
 cases h with
 | leaf h _=>cases h
 | grp h s t=>cases h;cases t;simpa using s
 | fblk h _ _ _ _=>cases h
 | oblk h _ _ _ _ _=>cases h
theorem RdL.grpG_inv {w O} {g:Option Nat} {cs:List V} {us:List Value} {fp} (h:RdL w O [Ax1 g cs] [Akn g us] fp):RdL w O cs us fp:=by
 cases g with
 | none=>exact RdL.grp_inv h
 | some f=>
   cases h with
   | leaf h _=>cases h
   | grp h s t=>
     cases t;have key : ∀ {v:Value} {ch vch},Grp (.clo f cs) v ch vch->v=Akn (some f) us->ch=cs/\vch=us:=by intro v ch vch hh hv;cases hh;simp only [Akn,Value.func.injEq] at hv;exact ⟨rfl,by simpa using hv.2.2⟩
     obtain ⟨rfl,rfl⟩:=key h rfl;simpa using s
   | fblk h _ _ _ _=>cases h
   | oblk h _ _ _ _ _=>cases h
theorem Tri.toAgg {P f args R} {g:Option Nat} {pvs bvs rvs:List Value} (hl:pvs.length+bvs.length<=args.length) (h:Tri P f (Aw0 pvs.length bvs.length g args) (Xy pvs.length g R)) :
  A5e P f args (pvs++(bvs++rvs)) (pvs++(Akn g bvs::rvs)) R:=by
 intro w O fp h1 h2;rw [<-List.take_append_drop pvs.length args] at h1;obtain ⟨v0,v3,f0,f3,e0,rfl,r0,r3⟩:=RdL.split _ h1;rw [<-List.take_append_drop bvs.length (args.drop pvs.length)] at r3;obtain ⟨v1,v2,f1,f2,e1,rfl,r1,r2⟩:=RdL.split _ r3;have l0:=r0.length;have l1:=r1.length;have hv0:v0.length=pvs.length:=by rw [l0,List.length_take];omega
 have hv1:v1.length=bvs.length:=by rw [l1,List.length_take,List.length_drop];omega
 obtain ⟨rfl,e2⟩:=List.append_inj e0 hv0.symm;rw [e1] at e2;obtain ⟨rfl,rfl⟩:=List.append_inj e2 hv1.symm;have rg:RdL w O (Aw0 pvs.length bvs.length g args) (pvs++(Akn g bvs::rvs)) (f0++(f1++f2)):=r0.append (by cases g with
  | none=>exact .grp (.agg _ _) r1 r2
  | some f=>exact .grp (.clo _ _ _) r1 r2)
 obtain ⟨hf,hc⟩:=h w O _ _ rg h2;refine ⟨hf,hc.mono ?_⟩;rintro e w' ⟨res,outs,rv,O',fpr,fpo,hR,he,q1,q2,q3,q4⟩;unfold Xy at hR;split at hR
 case h_2=>exact hR.elim
 rename_i gv o hdrop;split at hR
 case h_2=>exact hR.elim
 rename_i cs hun;have hgv:=A2d hun;subst hgv;have q2':=q2;rw [<-List.take_append_drop pvs.length outs,hdrop] at q2';obtain ⟨y0,y1,g0,g1,k0,rfl,s0,s1⟩:=RdL.split _ q2';have hlo:=q2.length;have hy0:y0.length=pvs.length:=by
  rw [s0.length,List.length_take];have:outs.length=pvs.length+(rvs.length+1):=by simp at hlo;omega
  omega
 obtain ⟨rfl,k1⟩:=List.append_inj k0 hy0.symm;subst k1;obtain ⟨v,vs2,g2,g3,e2,rfl,s2,s3⟩:=s1.cons_split;cases e2;have s4:=s2.grpG_inv;exact ⟨res,_,rv,O',fpr,_,hR,he,q1,by simpa using s0.append (s4.append s3),q3,q4⟩
theorem Ab9 {σ a w O gv N vals fp} (h:Ok σ a w O gv N vals fp) {O2:Nat->Prop} (h1 : ∀b,¬O b->b<w.heap.size->¬O2 b) : ∀ {as:List (A×Bool)} {k us Vs rs},
  RelL w O (look σ) vals (as.map (·.1)) us->Ft σ as k=some (Vs,[],rs)->(∀r∈rs,∀b∈fp r,¬O2 b)->RdL w O2 Vs us []:=by
 intro as
 induction as with
 | nil=>intro k us Vs rs hr ha _;simp [Ft] at ha;obtain ⟨rfl,_⟩:=ha;cases hr;exact .nil
 | cons x rest ih=>
   intro k us Vs rs hr ha hR;obtain ⟨x,io⟩:=x;have hl:=hr.length
   match us,hl with
   | u::us,_=>
     obtain ⟨hr1,hr2⟩:=hr.uncons;simp only [Ft] at ha;split at ha
     ·cases ha
     ·rename_i vs ls rs' hrest;split at ha
      ·cases ha
      ·split at ha
       ·rename_i v hv;cases ha;have h2:=Atg h (O2:=O2) h1 hr1 (Us:=[v]) (by simp [Ah7,hv]) (by intro r hr';exact hR r (by simp [Gh] at hr';simp [hr']));simpa using h2.append (ih hr2 hrest λr hr'=>hR r (by simp [hr']))
       ·cases ha
theorem Ao1 {σ a w O gv N vals fp} (h:Ok σ a w O gv N vals fp) : ∀ {as:List (A×Bool)} {k us Vs j r p rs},
  RelL w O (look σ) vals (as.map (·.1)) us->Ft σ as k=some (Vs,[(j,r,p)],rs) ->
  ∃T u x l m vl vr,k<=j/\look σ r = .val T/\sub p T=some u/\u.node=true/\C0 w p (vals r)=some x/\Vs=l++u::m/\us=vl++x::vr/\l.length=j-k/\vl.length=j-k /\
    ∀O2:Nat->Prop,(∀b,¬O b->b<w.heap.size->¬O2 b)->(∀r∈rs,∀b∈fp r,¬O2 b)->RdL w O2 l vl []/\RdL w O2 m vr []:=by
 intro as
 induction as with
 | nil=>intro k us Vs j r p rs hr ha;simp [Ft] at ha
 | cons x rest ih=>
   intro k us Vs j r p rs hr ha;obtain ⟨x,io⟩:=x;have hl:=hr.length
   match us,hl with
   | u::us,_=>
     obtain ⟨hr1,hr2⟩:=hr.uncons;simp only [Ft] at ha;split at ha
     ·cases ha
     ·rename_i vs ls rs' hrest;split at ha
      ·rename_i r' p' u' hlent;cases ha;split at hlent
       ·unfold Vv at hlent;split at hlent
        ·rename_i r2 p2;split at hlent
         ·rename_i u2 hnode;split at hlent
          ·rename_i hn;cases hlent;cases hr1 with
           | @ref _ _ T u3 _ _ _ hL hs hv _=> simp only [Cd,hL,hs,Option.some.injEq] at hnode;subst hnode;refine ⟨T,u3,u,[],_,[],us,Nat.le_refl _,hL,hs,hn,hv,rfl,rfl,by simp,by simp,?_⟩;intro O2 h1 hR;exact ⟨.nil,Ab9 h h1 hr2 hrest hR⟩
          ·cases hlent
         ·cases hlent
        ·cases hlent
       ·cases hlent
      ·split at ha
       ·rename_i v hv;cases ha;obtain ⟨T,u0,x0,l,m,vl,vr,hkj,hT,hs,hn,hva,e1,e2,l1,l2,hrd⟩:=ih hr2 hrest;refine ⟨T,u0,x0,v::l,m,u::vl,vr,by omega,hT,hs,hn,hva,by simp [e1],by simp [e2],by simp [l1];omega,by simp [l2];omega,?_⟩;intro O2 h1 hR;obtain ⟨q1,q2⟩:=hrd O2 h1 λr hr'=>hR r (by simp [hr'])
        have h2:=Atg h (O2:=O2) h1 hr1 (Us:=[v]) (by simp [Ah7,hv]) (by intro r hr';exact hR r (by simp [Gh] at hr';simp [hr']));exact ⟨by simpa using h2.append q1,q2⟩
       ·cases ha
def Nb (w:World) (O:Nat->Prop) (gv:Nat->Value) (N:Nat) (fp:Nat->List Nat) (K:St->Prop) (next:Act->World->Prop):Prop:=
 ∀σ' a' w' O' vals' fp',K σ'->Ok σ' a' w' O' gv N vals' fp'->Mv w O (Sof fp) w' O' (Sof fp')->next a' w'
theorem Ug {P:Program} {o:Oper} {σ' a w O gv N fp next Q} {K:St->Prop} (h:B4 P o σ' a w O gv N fp) (hk:K σ') (hn:Nb w O gv N fp K next):o.wp P a w next Q:=by
 obtain ⟨v,w',O',vals',fp',hrun,ho,hm⟩:=h;unfold Oper.wp;rcases hrun with hrun | ⟨hrun,rfl⟩
 ·rw [hrun];exact hn σ' _ _ _ _ _ hk ho hm
 rw [hrun];exact hn σ' _ _ _ _ _ hk ho hm
theorem A3j : ∀(p q:List Nat),To p q=true->p.length<=q.length/\(p.length=q.length->p=q):=by
 intro p
 induction p with
 | nil=>intro q _;exact ⟨Nat.zero_le _,λh=>(List.length_eq_zero_iff.1 h.symm).symm⟩
 | cons c p ih=>
   intro q h
   match q with
   | []=>simp [To] at h
   | d::q=> simp only [To,Bool.and_eq_true] at h;obtain ⟨h1,h2⟩:=ih q h.2;have:c=d:=Nat.eq_of_beq_eq_true h.1;subst this;exact ⟨by simpa using h1,λhl=>by rw [h2 (by simpa using hl)]⟩
theorem Aab {p q:List Nat} (hl:q.length<=p.length) (hne:q≠p):To p q=false:=by
 cases h:To p q with
 | false=>rfl
 | true=> obtain ⟨h1,h2⟩:=A3j p q h;exact absurd (h2 (by omega)).symm hne
theorem Wo {q p:List Nat} {o:V} (h:q.length<p.length+Ov o):q.length<=p.length/\(q.length=p.length->o.node=true):=by
 cases hn:o.node with
 | true=>rw [Akx hn] at h;exact ⟨by omega,λ_=>rfl⟩
 | false=>simp only [Ov,hn] at h;exact ⟨by omega,λe=>by omega⟩
theorem A2a {σ a w O gv N vals fp} (h:Ok σ a w O gv N vals fp) {r1 r2:Nat} {p1 p2:List Nat} {T1 T2 u1 u2:V} (hT1:look σ r1 = .val T1) (hT2:look σ r2 = .val T2) (hs1:sub p1 T1=some u1) (hs2:sub p2 T2=some u2)
  (hap:Ayc r1 p1 r2 p2 (look σ r1)=true) {x1 x2:Value} (hv1:C0 w p1 (vals r1)=some x1) (hv2:C0 w p2 (vals r2)=some x2) :
  ∃fu1 fu2,RdL w O [u1] [x1] fu1/\RdL w O [u2] [x2] fu2/\(fu1++fu2).Nodup/\(∀b∈fu1,b∈fp r1)/\(∀b∈fu2,b∈fp r2) /\
    ∀w' O2 o1 o2 fo1 fo2 σ',Li w O w' O2->(∀b,Sof fp b->b∉fu1++fu2->w'.heap[b]? = w.heap[b]? /\ O2 b)->RdL w' O2 [o1] [x1] fo1->RdL w' O2 [o2] [x2] fo2->(fo1++fo2).Nodup ->
      (∀b∈fo1++fo2,Sof fp b->b∈fu1++fu2)->Avn r1 p1 r2 p2 o1 o2 σ=some σ' ->
      ∃fp',Ok σ' a w' O2 gv N vals fp' /\ ∀b,Sof fp' b->(Sof fp b/\b∉fu1++fu2)\/b∈fo1++fo2:=by
 have hR1:=h.sim.own r1 T1 hT1;have hR2:=h.sim.own r2 T2 hT2;by_cases hrr:r1=r2
 ·subst hrr;rw [hT1] at hT2;cases hT2;have hbb:Nat.beq r1 r1=true:=Nat.beq_refl r1;simp only [Ayc,hbb,hT1,Bool.and_eq_true,Bool.not_eq_true'] at hap;obtain ⟨⟨d1,d2⟩,hap⟩:=hap;split at hap
  case h_2=>cases hap
  rename_i H1 hH1;obtain ⟨H2,hH2⟩:=Option.isSome_iff_exists.1 hap;obtain ⟨z1,A1,fu1,B1,e1,hz1,hru1,hset1⟩:=ctx p1 hR1 hs1;rw [hv1] at hz1;cases hz1;have hst0 : ∀b,¬O b->b<w.heap.size->w.heap[b]? = w.heap[b]? /\ ¬O b:=λb hb _=>⟨rfl,hb⟩
  have hown0 : ∀b,b∈A1++B1->w.heap[b]? = w.heap[b]? /\ O b:=λb hb=>⟨rfl,(hR1.fpO b (by rw [e1];simp at hb ⊢;rcases hb with h | h<;>simp [h])).1⟩
  have hRH:RdL w O [H1] [vals r1] (A1++([]++B1)):=hset1 w O H1 .dead [] hH1 hown0 hst0 (.leaf (.dead _) .nil);have hs2':sub p2 H1=some u2:=by rw [Wq p1 p2 hs1 hH1 d1 d2];exact hs2
  obtain ⟨z2,A2,fu2,B2,e2,hz2,hru2,hset2⟩:=ctx p2 hRH hs2';rw [hv2] at hz2;cases hz2;have hdead1:sub p1 H1=some .dead:=G9 p1 hs1 hH1;have hRH2:RdL w O [H2] [vals r1] (A2++([]++B2)):=hset2 w O H2 .dead [] hH2 (λb hb=>⟨rfl,(hRH.fpO b (by rw [e2];simp at hb ⊢;rcases hb with h | h<;>simp [h])).1⟩) hst0 (.leaf (.dead _) .nil);have hmemf : ∀b,b∈fp r1↔b∈fu1\/b∈fu2\/b∈A2++B2:=by
   intro b;have e2':A1++B1=A2++(fu2++B2):=by simpa using e2
   have:b∈A1++B1↔b∈fu2\/b∈A2++B2:=by
    rw [e2'];simp only [List.mem_append];constructor
    ·rintro (h | h | h)<;>simp [h]
    ·rintro (h | h | h)<;>simp [h]
   rw [e1];simp only [List.mem_append] at this ⊢;constructor
   ·rintro (h | h | h)
    ·exact .inr (this.1 (.inl h))
    ·exact .inl h
    ·exact .inr (this.1 (.inr h))
   ·rintro (h | h)
    ·exact .inr (.inl h)
    ·rcases this.2 h with h | h
     ·exact .inl h
     ·exact .inr (.inr h)
  have hnd:=h.sim.nd r1;have hperm:(fp r1).Perm (fu1++(fu2++(A2++B2))):=by
   have e2':A1++B1=A2++(fu2++B2):=by simpa using e2
   rw [e1];refine (List.perm_append_comm_assoc A1 fu1 B1).trans ?_;rw [e2'];exact (List.perm_append_comm_assoc A2 fu2 B2).append_left fu1
  have hnd2:=hperm.nodup_iff.1 hnd;have nd1:=List.nodup_append.1 hnd2;have nd2:=List.nodup_append.1 nd1.2.1;refine ⟨fu1,fu2,hru1,hru2,?_,λb hb=>(hmemf b).2 (.inl hb),λb hb=>(hmemf b).2 (.inr (.inl hb)),?_⟩
  ·exact List.nodup_append.2 ⟨nd1.1,nd2.1,λb hb c hc=>nd1.2.2 b hb c (by simp [hc])⟩
  intro w' O2 o1 o2 fo1 fo2 σ' hst hsame ro1 ro2 hndo hold hback;simp only [Avn,hbb,hT1,A78,hH1] at hback;split at hback
  case h_2=>cases hback
  rename_i T'' hup;cases hback;split at hup
  case h_2=>cases hup
  rename_i U2 hU2;have hrest : ∀b∈A2++B2,b∈fp r1/\b∉fu1++fu2:=by
   intro b hb;refine ⟨(hmemf b).2 (.inr (.inr hb)),λhc=> ?_⟩;rcases List.mem_append.1 hc with hc | hc
   ·exact nd1.2.2 b hc b (List.mem_append_right _ hb) rfl
   ·exact nd2.2.2 b hc b hb rfl
  have hrest2 : ∀b∈A2++B2,w'.heap[b]? = w.heap[b]? /\ O2 b:=λb hb=>hsame b ⟨r1,(hrest b hb).1⟩ (hrest b hb).2
  have hRU:RdL w' O2 [U2] [vals r1] (A2++(fo2++B2)):=hset2 w' O2 U2 o2 fo2 hU2 hrest2 hst ro2;have hdeadU:sub p1 U2=some .dead:=by rw [Wq p2 p1 hs2' hU2 d2 d1];exact hdead1
  have hdeadH:sub p1 H2=some .dead:=by rw [Wq p2 p1 hs2' hH2 d2 d1];exact hdead1
  have hval : ∀q u,sub q H2=some u->C0 w' q (vals r1)=C0 w q (vals r1):=λq u hq=>Lb q hRH2 hq λb hb=>(hrest2 b (by simpa using hb)).1
  obtain ⟨z3,A3,fd,B3,e3,hz3,hrd,hset3⟩:=ctx p1 hRU hdeadU;rw [hval p1 _ hdeadH,hv1] at hz3;cases hz3;have hfd:fd=[]:=hrd.noOwn rfl;subst hfd;have e3':A2++(fo2++B2)=A3++B3:=by simpa using e3
  have hRT:RdL w' O2 [T''] [vals r1] (A3++(fo1++B3)):=hset3 w' O2 T'' o1 fo1 hup (λb hb=>⟨rfl,(hRU.fpO b (by rw [e3'];exact hb)).1⟩) (λb hb _=>⟨rfl,hb⟩) ro1;have hperm2:(A3++(fo1++B3)).Perm ((fo1++fo2)++(A2++B2)):=by refine (List.perm_append_comm_assoc A3 fo1 B3).trans ?_;rw [<-e3',List.append_assoc];exact (List.perm_append_comm_assoc A2 fo2 B2).append_left fo1
  have hndT:(A3++(fo1++B3)).Nodup:=by rw [hperm2.nodup_iff];refine List.nodup_append.2 ⟨hndo,nd2.2.1,?_⟩;rintro b hb c hc rfl;exact (hrest b hc).2 (hold b hb ⟨r1,(hrest b hc).1⟩)
  have hmemT : ∀b,b∈A3++(fo1++B3)↔b∈fo1++fo2\/b∈A2++B2:=λb=>by rw [hperm2.mem_iff,List.mem_append]
  have hsubT : ∀q u,q.length<p1.length+Ov o1->q.length<p2.length+Ov o2->sub q T1=some u->(∃u',sub q H2=some u') /\ ∃u',sub q T''=some u'/\(u.node=true->u'.node=true):=by
   intro q u l1' l2' hq;have l1:=(Wo l1').1;have l2:=(Wo l2').1;by_cases hq1:q=p1
   ·subst hq1;exact ⟨⟨_,hdeadH⟩,o1,G9 q hdeadU hup,λ_=>(Wo l1').2 rfl⟩
   ·by_cases hq2:q=p2
    ·subst hq2;refine ⟨⟨_,G9 q hs2' hH2⟩,o2,?_,λ_=>(Wo l2').2 rfl⟩;rw [Wq p1 q hdeadU hup d1 d2];exact G9 q hs2' hU2
    ·obtain ⟨v1,k1,m1⟩:=Lt p1 q hq hs1 hH1 (Aab l1 hq1);obtain ⟨v2,k2,_⟩:=Lt p2 q k1 hs2' hH2 (Aab l2 hq2);obtain ⟨v3,k3,m3⟩:=Lt p2 q k1 hs2' hU2 (Aab l2 hq2);obtain ⟨v4,k4,m4⟩:=Lt p1 q k3 hdeadU hup (Aab l1 hq1);exact ⟨⟨_,k2⟩,v4,k4,λhn=>m4 (m3 (m1 hn))⟩
  have hsim:=h.sim.turn (w':=w') (O':=O2) r1 (min (p1.length+Ov o1) (p2.length+Ov o2)) T1 T'' (A3++(fo1++B3)) hT1 hst (λs hs b hb=>by
    refine hsame b ⟨s,hb⟩ λhc=> ?_
    have:b∈fp r1:=(hmemf b).2 (by rcases List.mem_append.1 hc with h | h;exact .inl h;exact .inr (.inl h));exact hs (h.sim.dj s r1 b hb this)) hRT hndT (by
    intro b hb s hs hbs;rcases (hmemT b).1 hb with h1 | h1
    ·have:=hold b h1 ⟨s,hbs⟩;have hb1:b∈fp r1:=(hmemf b).2 (by rcases List.mem_append.1 this with h | h;exact .inl h;exact .inr (.inl h));exact hs (h.sim.dj s r1 b hbs hb1)
    ·exact hs (h.sim.dj s r1 b hbs (hrest b h1).1)) (by
    intro q u v hl hq hvq;obtain ⟨⟨u',k1⟩,u2',k2,k3⟩:=hsubT q u (by omega) (by omega) hq;exact ⟨u2',k2,k3,by rw [hval q u' k1];exact hvq⟩)
  rw [<-Lr hT1] at hsim;refine ⟨_,⟨hsim,h.lo,h.hi,h.sz,h.df⟩,?_⟩;rintro b ⟨s,hs⟩;simp only [upF] at hs;split at hs
  ·rcases (hmemT b).1 hs with h1 | h1
   ·exact .inr h1
   exact .inl ⟨⟨r1,(hrest b h1).1⟩,(hrest b h1).2⟩
  rename_i hne;refine .inl ⟨⟨s,hs⟩,λhc=> ?_⟩;have:b∈fp r1:=(hmemf b).2 (by rcases List.mem_append.1 hc with h | h;exact .inl h;exact .inr (.inl h));exact hne (h.sim.dj s r1 b hs this)
 obtain ⟨z1,A1,fu1,B1,e1,hz1,hru1,hset1⟩:=ctx p1 hR1 hs1;rw [hv1] at hz1;cases hz1;obtain ⟨z2,A2,fu2,B2,e2,hz2,hru2,hset2⟩:=ctx p2 hR2 hs2;rw [hv2] at hz2;cases hz2;have m1 : ∀b∈fu1,b∈fp r1:=λb hb=>by rw [e1];simp [hb]
 have m2 : ∀b∈fu2,b∈fp r2:=λb hb=>by rw [e2];simp [hb]
 have hnd1:=h.sim.nd r1;have hnd2:=h.sim.nd r2;rw [e1] at hnd1;rw [e2] at hnd2;have a1:=List.nodup_append.1 hnd1;have a2:=List.nodup_append.1 a1.2.1;have b1:=List.nodup_append.1 hnd2;have b2:=List.nodup_append.1 b1.2.1;have hrest1 : ∀b∈A1++B1,b∈fp r1/\b∉fu1++fu2:=by
  intro b hb;have hm:b∈fp r1:=by rw [e1];simp at hb ⊢;rcases hb with h | h<;>simp [h]
  refine ⟨hm,λhc=> ?_⟩;rcases List.mem_append.1 hc with hc | hc
  ·rcases List.mem_append.1 hb with h1 | h1
   ·exact a1.2.2 b h1 b (by simp [hc]) rfl
   ·exact a2.2.2 b hc b h1 rfl
  ·exact hrr (h.sim.dj r1 r2 b hm (m2 b hc))
 have hrest2 : ∀b∈A2++B2,b∈fp r2/\b∉fu1++fu2:=by
  intro b hb;have hm:b∈fp r2:=by rw [e2];simp at hb ⊢;rcases hb with h | h<;>simp [h]
  refine ⟨hm,λhc=> ?_⟩;rcases List.mem_append.1 hc with hc | hc
  ·exact hrr (h.sim.dj r1 r2 b (m1 b hc) hm)
  ·rcases List.mem_append.1 hb with h1 | h1
   ·exact b1.2.2 b h1 b (by simp [hc]) rfl
   ·exact b2.2.2 b hc b h1 rfl
 refine ⟨fu1,fu2,hru1,hru2,?_,m1,m2,?_⟩
 ·refine List.nodup_append.2 ⟨a2.1,b2.1,?_⟩;rintro b hb c hc rfl;exact hrr (h.sim.dj r1 r2 b (m1 b hb) (m2 b hc))
 intro w' O2 o1 o2 fo1 fo2 σ' hst hsame ro1 ro2 hndo hold hback;have hbb:Nat.beq r1 r2=false:=by
  cases hb:Nat.beq r1 r2 with
  | false=>rfl
  | true=>exact absurd (Nat.eq_of_beq_eq_true hb) hrr
 simp only [Avn,hbb,hT1,hT2] at hback;split at hback
 case h_2=>cases hback
 rename_i T1' T2' hu1 hu2;cases hback;have q1:RdL w' O2 [T1'] [vals r1] (A1++(fo1++B1)):=hset1 w' O2 T1' o1 fo1 hu1 (λb hb=>hsame b ⟨r1,(hrest1 b hb).1⟩ (hrest1 b hb).2) hst ro1;have q2:RdL w' O2 [T2'] [vals r2] (A2++(fo2++B2)):=hset2 w' O2 T2' o2 fo2 hu2 (λb hb=>hsame b ⟨r2,(hrest2 b hb).1⟩ (hrest2 b hb).2) hst ro2;have hndo':=List.nodup_append.1 hndo;have old1 : ∀b∈fo1,∀s,b∈fp s->s=r1\/s=r2:=λb hb s hs=>by
  rcases List.mem_append.1 (hold b (by simp [hb]) ⟨s,hs⟩) with h1 | h1
  ·exact .inl (h.sim.dj s r1 b hs (m1 b h1))
  ·exact .inr (h.sim.dj s r2 b hs (m2 b h1))
 have old2 : ∀b∈fo2,∀s,b∈fp s->s=r1\/s=r2:=λb hb s hs=>by
  rcases List.mem_append.1 (hold b (by simp [hb]) ⟨s,hs⟩) with h1 | h1
  ·exact .inl (h.sim.dj s r1 b hs (m1 b h1))
  ·exact .inr (h.sim.dj s r2 b hs (m2 b h1))
 have ndn1:(A1++(fo1++B1)).Nodup:=by
  refine List.nodup_append.2 ⟨a1.1,List.nodup_append.2 ⟨hndo'.1,a2.2.1,?_⟩,?_⟩
  ·rintro b hb c hc rfl;exact (hrest1 b (by simp [hc])).2 (hold b (by simp [hb]) ⟨r1,(hrest1 b (by simp [hc])).1⟩)
  ·rintro b hb c hc rfl;rcases List.mem_append.1 hc with h1 | h1
   ·exact (hrest1 b (by simp [hb])).2 (hold b (by simp [h1]) ⟨r1,(hrest1 b (by simp [hb])).1⟩)
   ·exact a1.2.2 b hb b (by simp [h1]) rfl
 have ndn2:(A2++(fo2++B2)).Nodup:=by
  refine List.nodup_append.2 ⟨b1.1,List.nodup_append.2 ⟨hndo'.2.1,b2.2.1,?_⟩,?_⟩
  ·rintro b hb c hc rfl;exact (hrest2 b (by simp [hc])).2 (hold b (by simp [hb]) ⟨r2,(hrest2 b (by simp [hc])).1⟩)
  ·rintro b hb c hc rfl;rcases List.mem_append.1 hc with h1 | h1
   ·exact (hrest2 b (by simp [hb])).2 (hold b (by simp [h1]) ⟨r2,(hrest2 b (by simp [hb])).1⟩)
   ·exact b1.2.2 b hb b (by simp [h1]) rfl
 have same1 : ∀b'∈fp r1,b'∉fu1->w'.heap[b']? = w.heap[b']? := λb hb hbu=>(hsame b ⟨r1,hb⟩ λhc=>by
  rcases List.mem_append.1 hc with h1 | h1
  ·exact hbu h1
  ·exact hrr (h.sim.dj r1 r2 b hb (m2 b h1))).1
 have same2 : ∀b'∈fp r2,b'∉fu2->w'.heap[b']? = w.heap[b']? := λb hb hbu=>(hsame b ⟨r2,hb⟩ λhc=>by
  rcases List.mem_append.1 hc with h1 | h1
  ·exact hrr (h.sim.dj r1 r2 b (m1 b h1) hb)
  ·exact hbu h1).1
 have eL1:=Lr (r:=r1) (U':=T1') (n:=p1.length+Ov o1) hT1;have hT2':look (K6 r1 T1' (p1.length+Ov o1) σ) r2 = .val T2:=by rw [eL1];simp only [if_neg (Ne.symm hrr),hT2,A.mapR]
 have eL2:=Lr (r:=r2) (U':=T2') (n:=p2.length+Ov o2) hT2'
 let fp':Nat->List Nat:=λs=>if s=r1 then A1++(fo1++B1) else if s=r2 then A2++(fo2++B2) else fp s
 have memfp : ∀s b,b∈fp' s->(b∈fp s/\b∉fu1++fu2)\/(s=r1/\b∈fo1)\/(s=r2/\b∈fo2):=by
  intro s b hb;simp only [fp'] at hb;split at hb
  ·rename_i e;subst e;simp only [List.mem_append] at hb;rcases hb with h1 | h1 | h1
   ·exact .inl (hrest1 b (by simp [h1]))
   ·exact .inr (.inl ⟨rfl,h1⟩)
   ·exact .inl (hrest1 b (by simp [h1]))
  ·split at hb
   ·rename_i e;subst e;simp only [List.mem_append] at hb;rcases hb with h1 | h1 | h1
    ·exact .inl (hrest2 b (by simp [h1]))
    ·exact .inr (.inr ⟨rfl,h1⟩)
    ·exact .inl (hrest2 b (by simp [h1]))
   ·rename_i n1 n2;refine .inl ⟨hb,λhc=> ?_⟩;rcases List.mem_append.1 hc with h1 | h1
    ·exact n1 (h.sim.dj s r1 b hb (m1 b h1))
    ·exact n2 (h.sim.dj s r2 b hb (m2 b h1))
 have hsim:=h.sim.turnM (w':=w') (O':=O2) (L':=look (K6 r2 T2' (p2.length+Ov o2) (K6 r1 T1' (p1.length+Ov o1) σ))) (fp':=fp') (λr p=>(Ay r1 (p1.length+Ov o1) r p).bind λr'=>Ay r2 (p2.length+Ov o2) r' p) hst (by
   intro r p r' hg;obtain ⟨r3,g1,g2⟩:=Option.bind_eq_some_iff.1 hg;simp only [Ay] at g1 g2;split at g1
   ·cases g1
   ·cases g1;split at g2
    ·cases g2
    ·cases g2;rfl) (by
   intro s V hV;rw [eL2];by_cases e1:s=r1
   ·subst e1;rw [hT1] at hV;cases hV;refine ⟨T1',by simp only [if_neg hrr,eL1,if_true,A.mapR],by simpa [fp'] using q1,by simpa [fp'] using ndn1,?_⟩;intro q u v hg hq hvq;obtain ⟨r3,g1,_⟩:=Option.bind_eq_some_iff.1 hg;have hl':q.length<p1.length+Ov o1:=by
     simp only [Ay] at g1;split at g1
     ·cases g1
     ·rename_i hc;rcases Nat.lt_or_ge q.length (p1.length+Ov o1) with h5 | h5
      ·exact h5
      ·simp at hc;omega
    have hl:=(Wo hl').1;obtain ⟨u3,k1,k2⟩:=Ajk p1 q hq hs1 hu1 hl λe _=>(Wo hl').2 e
    exact ⟨u3,k1,k2,by rw [Um p1 q hR1 (h.sim.nd s) hs1 hq hl hv1 hru1 same1];exact hvq⟩
   ·by_cases e2:s=r2
    ·subst e2;rw [hT2] at hV;cases hV;refine ⟨T2',by simp only [if_true],by simpa [fp',e1] using q2,by simpa [fp',e1] using ndn2,?_⟩;intro q u v hg hq hvq;obtain ⟨r3,g1,g2⟩:=Option.bind_eq_some_iff.1 hg;have hl':q.length<p2.length+Ov o2:=by
      have:r3=s:=by
       simp only [Ay] at g1;split at g1
       ·cases g1
       ·cases g1;rfl
      subst this;simp only [Ay] at g2;split at g2
      ·cases g2
      ·rename_i hc;rcases Nat.lt_or_ge q.length (p2.length+Ov o2) with h5 | h5
       ·exact h5
       ·simp at hc;omega
     have hl:=(Wo hl').1;obtain ⟨u3,k1,k2⟩:=Ajk p2 q hq hs2 hu2 hl λe _=>(Wo hl').2 e
     exact ⟨u3,k1,k2,by rw [Um p2 q hR2 (h.sim.nd _) hs2 hq hl hv2 hru2 same2];exact hvq⟩
    ·have hr:=h.sim.own s V hV;have hsb : ∀b∈fp s,w'.heap[b]? = w.heap[b]? /\ O2 b:=λb hb=>hsame b ⟨s,hb⟩ λhc=>by
      rcases List.mem_append.1 hc with h1 | h1
      ·exact e1 (h.sim.dj s r1 b hb (m1 b h1))
      ·exact e2 (h.sim.dj s r2 b hb (m2 b h1))
     refine ⟨V,by simp only [if_neg e2,eL1,if_neg e1,hV,A.mapR],by simpa [fp',e1,e2] using hr.frame hsb hst,by simpa [fp',e1,e2] using h.sim.nd s,?_⟩;intro q u v _ hq hvq;exact ⟨u,hq,id,by rw [Lb q hr hq λb hb=>(hsb b hb).1];exact hvq⟩) (by
   intro s hn;have n1:s≠r1:=by rintro rfl;exact hn T1 hT1
   have n2:s≠r2:=by rintro rfl;exact hn T2 hT2
   refine ⟨?_,by simpa [fp',n1,n2] using h.sim.non s hn⟩;rw [eL2];simp only [if_neg n2,eL1,if_neg n1];exact Ase _ _ _) (by
   intro s t b g1 g2;rcases memfp s b g1 with ⟨k1,k2⟩ | ⟨rfl,k1⟩ | ⟨rfl,k1⟩
   ·rcases memfp t b g2 with ⟨l1,_⟩ | ⟨rfl,l1⟩ | ⟨rfl,l1⟩
    ·exact h.sim.dj s t b k1 l1
    ·exact absurd (hold b (by simp [l1]) ⟨s,k1⟩) k2
    ·exact absurd (hold b (by simp [l1]) ⟨s,k1⟩) k2
   ·rcases memfp t b g2 with ⟨l1,l2⟩ | ⟨rfl,l1⟩ | ⟨rfl,l1⟩
    ·exact absurd (hold b (by simp [k1]) ⟨t,l1⟩) l2
    ·rfl
    ·exact absurd rfl (hndo'.2.2 b k1 b l1)
   ·rcases memfp t b g2 with ⟨l1,l2⟩ | ⟨rfl,l1⟩ | ⟨rfl,l1⟩
    ·exact absurd (hold b (by simp [k1]) ⟨t,l1⟩) l2
    ·exact absurd rfl (hndo'.2.2 b l1 b k1)
    ·rfl)
 refine ⟨fp',⟨hsim,h.lo,h.hi,h.sz,h.df⟩,?_⟩;rintro b ⟨s,hs⟩;rcases memfp s b hs with ⟨k1,k2⟩ | ⟨_,k1⟩ | ⟨_,k1⟩
 ·exact .inl ⟨⟨s,k1⟩,k2⟩
 ·exact .inr (by simp [k1])
 exact .inr (by simp [k1])
theorem Awv {σ a w O gv N vals fp} (h:Ok σ a w O gv N vals fp) : ∀ {as:List (A×Bool)} {k us Vs j1 r1 p1 j2 r2 p2 rs},
  RelL w O (look σ) vals (as.map (·.1)) us->Ft σ as k=some (Vs,[(j1,r1,p1),(j2,r2,p2)],rs) ->
  ∃T1 u1 x1 T2 u2 x2,k<=j1/\j1<j2/\look σ r1 = .val T1/\sub p1 T1=some u1/\C0 w p1 (vals r1)=some x1/\look σ r2 = .val T2/\sub p2 T2=some u2/\C0 w p2 (vals r2)=some x2 /\
    us[j1-k]? = some x1/\us[j2-k]? = some x2 /\
    ∀(O2:Nat->Prop) (f1 f2:List Nat),(∀b,¬O b->b<w.heap.size->¬O2 b)->(∀r∈rs,∀b∈fp r,¬O2 b)->RdL w O2 [u1] [x1] f1->RdL w O2 [u2] [x2] f2->RdL w O2 Vs us (f1++f2):=by
 intro as
 induction as with
 | nil=>intro k us Vs j1 r1 p1 j2 r2 p2 rs hr ha;simp [Ft] at ha
 | cons x rest ih=>
   intro k us Vs j1 r1 p1 j2 r2 p2 rs hr ha;obtain ⟨x,io⟩:=x;have hl:=hr.length
   match us,hl with
   | u::us,_=>
     obtain ⟨hr1,hr2⟩:=hr.uncons;simp only [Ft] at ha;split at ha
     ·cases ha
     ·rename_i vs ls rs' hrest;split at ha
      ·rename_i r' p' u' hlent;cases ha;split at hlent
       ·unfold Vv at hlent;split at hlent
        ·rename_i r3 p3;split at hlent
         ·rename_i u3 hnode;split at hlent
          ·rename_i hn;cases hlent;cases hr1 with
           | @ref _ _ T u4 _ _ _ hL hs hv _=>
             simp only [Cd,hL,hs,Option.some.injEq] at hnode;subst hnode;obtain ⟨T2,u2,x2,l,m,vl,vr,hkj,hT,hs2,_,hva,e1,e2,l1,l2,hrd⟩:=Ao1 h hr2 hrest;refine ⟨T,u4,u,T2,u2,x2,Nat.le_refl _,by omega,hL,hs,hv,hT,hs2,hva,by simp,?_,?_⟩
             ·rw [show j2-k=(j2-(k+1))+1 by omega,List.getElem?_cons_succ,e2,List.getElem?_append_right (by omega),l2];simp
             ·intro O2 f1 f2 h1 hR g1 g2;obtain ⟨q1,q2⟩:=hrd O2 h1 hR;have:RdL w O2 vs us f2:=by
               rw [e1,e2];simpa using q1.append (g2.cons_join q2)
              exact g1.cons_join this
          ·cases hlent
         ·cases hlent
        ·cases hlent
       ·cases hlent
      ·split at ha
       ·rename_i v hv;cases ha;obtain ⟨T1,u1,x1,T2,u2,x2,hkj,hjj,a1,a2,a3,a4,a5,a6,a7,a8,hrd⟩:=ih hr2 hrest;refine ⟨T1,u1,x1,T2,u2,x2,by omega,hjj,a1,a2,a3,a4,a5,a6,?_,?_,?_⟩
        ·rw [show j1-k=(j1-(k+1))+1 by omega,List.getElem?_cons_succ];exact a7
        ·rw [show j2-k=(j2-(k+1))+1 by omega,List.getElem?_cons_succ];exact a8
        ·intro O2 f1 f2 h1 hR g1 g2;have h2:=Atg h (O2:=O2) h1 hr1 (Us:=[v]) (by simp [Ah7,hv]) (by intro r hr';exact hR r (by simp [Gh] at hr';simp [hr']));simpa using h2.append (hrd O2 f1 f2 h1 (λr hr'=>hR r (by simp [hr'])) g1 g2)
       ·cases ha
theorem Ar9 {P:Program} {o:Oper} {σ a w O gv N vals fp} {f d:Nat} {as:List (A×Bool)} {us uu:List Value} {Vs:List V} {ls:List (Nat×Nat×List Nat)} {rs:List Nat} {K:St->Prop} {next Q}
  (h:Ok σ a w O gv N vals fp) (hd:o.dst=some d) (hN:d<N)
  (hr:RelL w O (look σ) vals (as.map (·.1)) us) (hargs:Ft σ as 0=some (Vs,ls,rs)) (hroots:Nk σ ls rs=true) (htri:A74 P w O f Vs us uu (Ga d ls rs K σ)) (hn:Nb w O gv N fp K next)
  (hrun:(∃fn c,P.funcs[f]? = some fn∧(fn.name == "runtime.NumGoroutine")=false∧fn.body=some c)→(execOp a.eval o).run P w = .ok (.enter f uu.toArray) w):o.wp P a w next Q:=by
 unfold Oper.wp
 match ls,hroots,htri,hargs with
 | [],_,htri,hargs=>
   by_cases hrs:rs=[]
   ·subst hrs;have hrd:=Ab9 h (O2:=O) (λb hb _=>hb) hr hargs (by simp);obtain ⟨hfn,hcall⟩:=htri O [] (λb hb _=>hb) hrd (by simp);rw [hrun hfn];refine hcall.mono ?_;rintro e w' ⟨res,outs,rv,O',fpr,fpo,hR,rfl,r1,_,hnd,hm⟩;obtain ⟨_,hK⟩:=hR;have hst:Li w O w' O':=λb hb hlt=>by have:=hm.same b hlt (by simp);exact ⟨this.1,λhh=>hb (this.2.1 hh)⟩
    have o1:Ok σ a w' O' gv N vals fp:=h.world hst λb ⟨s,hs⟩=>by obtain ⟨hO,hlt⟩:=h.sim.fpO s b hs;have:=hm.same b hlt (by simp);exact ⟨this.1,this.2.2 hO⟩
    have hnew : ∀b∈fpr,w.heap.size<=b:=λb hb=>(hm.new b (by simp [hb])).elim (by simp) id
    obtain ⟨fp',o2,s2⟩:=o1.put_own hN r1 (List.nodup_append.1 hnd).1 (λb hb ⟨s,hs⟩=>by have:=(h.sim.fpO s b hs).2;have:=hnew b hb;omega);refine hn _ _ _ _ _ _ hK (by rw [hd];exact o2) ⟨hm.os,hm.tape,hm.output,hm.size,λb hb _=>hm.same b hb (by simp),λb hb=> ?_⟩;rcases s2 b hb with h1 | h1
    ·exact .inl h1
    ·exact .inr (hnew b h1)
   ·have hrd:=Ab9 h (O2:=λ_=>False) (λ_ _ _=>id) hr hargs (λ_ _ _ _=>id);obtain ⟨hfn,hcall⟩:=htri (λ_=>False) [] (λ_ _ _=>id) hrd (by simp);rw [hrun hfn];refine hcall.mono ?_;rintro e w' ⟨res,outs,rv,O',fpr,fpo,hR,rfl,r1,_,hnd,hm⟩;obtain ⟨hok,hK⟩:=hR;have hnf:res.noFz=true:=by simpa [Co,hrs] using hok
    have hnew : ∀b∈fpr,w.heap.size<=b:=λb hb=>(hm.new b (by simp [hb])).elim (by simp) id
    let O2:Nat->Prop:=λb=>if b<w.heap.size then O b else b∈fpr
    have hO2 : ∀b,b<w.heap.size->(O2 b↔O b):=λb hb=>by simp [O2,hb]
    have hst:Li w O w' O2:=λb hb hlt=>⟨(hm.same b hlt (by simp)).1,λhh=>hb ((hO2 b hlt).1 hh)⟩
    have o1:Ok σ a w' O2 gv N vals fp:=h.world hst λb ⟨s,hs⟩=>by obtain ⟨hO,hlt⟩:=h.sim.fpO s b hs;exact ⟨(hm.same b hlt (by simp)).1,(hO2 b hlt).2 hO⟩
    have r2:RdL w' O2 [res] [rv] fpr:=r1.retag (by simp [Bq,hnf]) λb hb=>by simp only [O2];rw [if_neg (by have:=hnew b hb;omega)];exact hb
    obtain ⟨fp',o2,s2⟩:=o1.put_own hN r2 (List.nodup_append.1 hnd).1 (λb hb ⟨s,hs⟩=>by have:=(h.sim.fpO s b hs).2;have:=hnew b hb;omega);refine hn _ _ _ _ _ _ hK (by rw [hd];exact o2) ⟨hm.os,hm.tape,hm.output,hm.size,λb hb _=>⟨(hm.same b hb (by simp)).1,hO2 b hb⟩,λb hb=> ?_⟩;rcases s2 b hb with h1 | h1
    ·exact .inl h1
    ·exact .inr (hnew b h1)
 | [(j,r,p)],hroots,htri,hargs=>
   have hroot:r∉rs:=by simpa [Nk] using hroots
   obtain ⟨T,u,x,l,m,vl,vr,_,hT,hsu,hnode,hva,eV,eu,hl,hvl,hrd⟩:=Ao1 h hr hargs;have hR:=h.sim.own r T hT;obtain ⟨z,f1,fu,f2,efp,hz,hru,hset⟩:=ctx p hR hsu;rw [hva] at hz;cases hz;have hfuO : ∀b∈fu,O b/\b<w.heap.size:=hru.fpO;have hfur : ∀b∈fu,b∈fp r:=λb hb=>by rw [efp];simp [hb]
   have hndr:=h.sim.nd r;rw [efp] at hndr;have nd1:=List.nodup_append.1 hndr;have nd2:=List.nodup_append.1 nd1.2.1;have hrest : ∀b,b∈f1++f2->b∈fp r/\b∉fu:=by
    intro b hb;refine ⟨by rw [efp];simp at hb ⊢;rcases hb with h | h<;>simp [h],λhbu=> ?_⟩;rcases List.mem_append.1 hb with h | h
    ·exact nd1.2.2 b h b (by simp [hbu]) rfl
    ·exact nd2.2.2 b hbu b h rfl
   have key : ∀(Oc:Nat->Prop),(∀b,¬O b->b<w.heap.size->¬Oc b)->(∀q∈rs,∀b∈fp q,¬Oc b)->(∀b∈fu,Oc b) ->
     (∀(res:V) (outs:List V) (out:V) (w':World) (O':Nat->Prop) (rv:Value) (fpr fpo:List Nat),outs[j]? = some out->Co rs res=true->Co rs out=true ->
      Mv w Oc (· ∈ fu) w' O' (· ∈ fpr++fpo)->RdL w' O' [res] [rv] fpr->RdL w' O' [out] [x] fpo ->
      ∃O2:Nat->Prop,(∀b,b<w.heap.size->b∉fu->(O2 b↔O b))/\RdL w' O2 [res] [rv] fpr/\RdL w' O2 [out] [x] fpo) ->
     o.upon P a next Q ((execOp a.eval o).run P w):=by
    intro Oc c1 c2 c3 c4;obtain ⟨q1,q2⟩:=hrd Oc c1 c2;have hru':RdL w Oc [u] [x] fu:=hru.frame (λb hb=>⟨rfl,c3 b hb⟩) (λb hb hlt=>⟨rfl,c1 b hb hlt⟩);have hargsR:RdL w Oc Vs us fu:=by rw [eV,eu];have:=q1.append (hru'.cons_join q2);simpa using this
    obtain ⟨hfn,hcall⟩:=htri Oc fu c1 hargsR nd2.1;rw [hrun hfn];refine hcall.mono ?_;rintro e w' ⟨res,outs,rv,O',fpr,fpo,hRR,rfl,r1,ro,hnd,hm⟩;simp only [Ga,hT] at hRR;obtain ⟨hokr,hRR⟩:=hRR;split at hRR
    case h_2=>exact hRR.elim
    rename_i out T2 hout hT2;cases hT2;obtain ⟨hoko,hRR⟩:=hRR;split at hRR
    case h_2=>exact hRR.elim
    rename_i T' hT';obtain ⟨lo,ro',vlo,xo,vro,flo,fuo,fro,e1,e2,e3,hlo,hvlo,_,rout,_⟩:=ro.at hout;have hxo:xo=x:=by
     have h1:us[j]? = some xo:=by rw [e2];subst hvlo;simp
     have hjv:vl.length=j:=by omega
     have h2:us[j]? = some x:=by rw [eu];subst hjv;simp
     rw [h1] at h2;cases h2;rfl
    subst hxo;have hfuo : ∀b∈fuo,b∈fpo:=λb hb=>by rw [e3];simp [hb]
    have hm':Mv w Oc (· ∈ fu) w' O' (· ∈ fpr++fuo):=hm.shrink λb hb=>by
     rcases List.mem_append.1 hb with h | h
     ·simp [h]
     ·simp [hfuo b h]
    obtain ⟨O2,hO2,r2,ro2⟩:=c4 res outs out w' O' rv fpr fuo hout hokr hoko hm' r1 rout;have hsame : ∀b,b<w.heap.size->b∉fu->w'.heap[b]? = w.heap[b]? := λb hb hbu=>(hm.same b hb hbu).1
    have hst:Li w O w' O2:=λb hb hlt=>by
     have hbu:b∉fu:=λhh=>hb (hfuO b hh).1
     exact ⟨hsame b hlt hbu,λhh=>hb ((hO2 b hlt hbu).1 hh)⟩
    have hnew : ∀b,b∈fpr\/b∈fuo->b∈fu\/w.heap.size<=b:=λb hb=>hm'.new b (by simpa using hb)
    have hndro:=List.nodup_append.1 hnd;have hndo:fuo.Nodup:=by have:=hndro.2.1;rw [e3] at this;exact (List.nodup_append.1 (List.nodup_append.1 this).2.1).1
    have hdisj : ∀b∈fpr,b∉fuo:=λb hb hb'=>hndro.2.2 b hb b (hfuo b hb') rfl
    have hrest2 : ∀b∈f1++f2,w'.heap[b]? = w.heap[b]? /\ O2 b:=by intro b hb;obtain ⟨hbr,hbu⟩:=hrest b hb;obtain ⟨hO,hlt⟩:=h.sim.fpO r b hbr;exact ⟨hsame b hlt hbu,(hO2 b hlt hbu).2 hO⟩
    have hRT:=hset w' O2 T' out _ hT' hrest2 hst ro2;have hnotold : ∀b,b∈fpr\/b∈fuo -> ∀s,b∈fp s->b∈fu:=by
     intro b hb s hs;rcases hnew b hb with h1 | h1
     ·exact h1
     ·have:=(h.sim.fpO s b hs).2;omega
    have hsim:=h.sim.turn (w':=w') (O':=O2) r (p.length+Ov out) T T' (f1++(fuo++f2)) hT hst (λs hs b hb=>by
      obtain ⟨hO,hlt⟩:=h.sim.fpO s b hb;have hbu:b∉fu:=λhh=>hs (h.sim.dj s r b hb (hfur b hh))
      exact ⟨hsame b hlt hbu,(hO2 b hlt hbu).2 hO⟩) hRT
     (by
      refine List.nodup_append.2 ⟨nd1.1,List.nodup_append.2 ⟨hndo,nd2.2.1,?_⟩,?_⟩
      ·rintro b hb c hc rfl;exact (hrest b (by simp [hc])).2 (hnotold b (.inr hb) r (hrest b (by simp [hc])).1)
      ·rintro b hb c hc rfl;rcases List.mem_append.1 hc with h1 | h1
       ·exact (hrest b (by simp [hb])).2 (hnotold b (.inr h1) r (hrest b (by simp [hb])).1)
       ·exact nd1.2.2 b hb b (by simp [h1]) rfl)
     (by
      intro b hb s hs hbs;have:b∈fp r:=by
       simp only [List.mem_append] at hb;rcases hb with h1 | h1 | h1
       ·exact (hrest b (by simp [h1])).1
       ·exact hfur b (hnotold b (.inr h1) s hbs)
       ·exact (hrest b (by simp [h1])).1
      exact hs (h.sim.dj s r b hbs this))
     (by
      intro q u2 v2 hlt hq hvq;have hdp:Ov out<=1:=by unfold Ov;split<;>omega
      obtain ⟨u3,k1,k2⟩:=Ajk p q hq hsu hT' (by omega) (λheq _=>by
       cases hon:out.node with
       | true=>rfl
       | false=>simp only [Ov,hon] at hlt;omega)
      refine ⟨u3,k1,k2,?_⟩;rw [Um p q hR (h.sim.nd r) hsu hq (by omega) hva hru (λb hb hbu=>hsame b (h.sim.fpO r b hb).2 hbu)];exact hvq)
    rw [<-Lr hT] at hsim;have o1:Ok (K6 r T' (p.length+Ov out) σ) a w' O2 gv N vals (upF fp r (f1++(fuo++f2))):=⟨hsim,h.lo,h.hi,h.sz,h.df⟩
    have hS1 : ∀b,Sof (upF fp r (f1++(fuo++f2))) b->Sof fp b\/b∈fuo:=by
     rintro b ⟨s,hs⟩;simp only [upF] at hs;split at hs
     ·simp only [List.mem_append] at hs;rcases hs with h1 | h1 | h1
      ·exact .inl ⟨r,(hrest b (by simp [h1])).1⟩
      ·exact .inr h1
      ·exact .inl ⟨r,(hrest b (by simp [h1])).1⟩
     ·exact .inl ⟨s,hs⟩
    obtain ⟨fp',o2,s2⟩:=o1.put_own hN r2 hndro.1 (by
     rintro b hb ⟨s,hs⟩;simp only [upF] at hs;split at hs
     ·simp only [List.mem_append] at hs;rcases hs with h1 | h1 | h1
      ·exact (hrest b (by simp [h1])).2 (hnotold b (.inl hb) r (hrest b (by simp [h1])).1)
      ·exact hdisj b hb h1
      ·exact (hrest b (by simp [h1])).2 (hnotold b (.inl hb) r (hrest b (by simp [h1])).1)
     ·rename_i hne;exact hne (h.sim.dj s r b hs (hfur b (hnotold b (.inl hb) s hs))))
    refine hn _ _ _ _ _ _ hRR (by rw [hd];exact o2) ⟨hm.os,hm.tape,hm.output,hm.size,λb hb hS=> ?_,λb hb=> ?_⟩
    ·have hbu:b∉fu:=λhh=>hS ⟨r,hfur b hh⟩
     exact ⟨hsame b hb hbu,hO2 b hb hbu⟩
    ·rcases s2 b hb with h1 | h1
     ·rcases hS1 b h1 with h2 | h2
      ·exact .inl h2
      ·rcases hnew b (.inr h2) with h3 | h3
       ·exact .inl ⟨r,hfur b h3⟩
       ·exact .inr h3
     ·rcases hnew b (.inl h1) with h3 | h3
      ·exact .inl ⟨r,hfur b h3⟩
      ·exact .inr h3
   by_cases hrs:rs=[]
   ·subst hrs;refine key O (λb hb _=>hb) (by simp) (λb hb=>(hfuO b hb).1) ?_;intro res outs out w' O' rv fpr fpo _ _ _ hm r1 ro;exact ⟨O',λb hb hbu=>(hm.same b hb hbu).2,r1,ro⟩
   ·refine key (· ∈ fu) (λb hb _ hbu=>hb (hfuO b hbu).1) ?_ (λb hb=>hb) ?_
    ·intro q hq b hb hbu;have:=h.sim.dj q r b hb (hfur b hbu);subst this;exact hroot hq
    ·intro res outs out w' O' rv fpr fpo _ hokr hoko hm r1 ro;have n1:res.noFz=true:=by simpa [Co,hrs] using hokr
     have n2:out.noFz=true:=by simpa [Co,hrs] using hoko
     refine ⟨λb=>if b<w.heap.size/\b∉fu then O b else (b∈fpr\/b∈fpo),λb hb hbu=>by simp [hb,hbu],?_,?_⟩
     ·refine r1.retag (by simp [Bq,n1]) λb hb=> ?_
      rw [if_neg]
      ·exact .inl hb
      ·rintro ⟨h1,h2⟩;rcases hm.new b (by simp [hb]) with h3 | h3
       ·exact h2 h3
       ·omega
     ·refine ro.retag (by simp [Bq,n2]) λb hb=> ?_
      rw [if_neg]
      ·exact .inr hb
      ·rintro ⟨h1,h2⟩;rcases hm.new b (by simp [hb]) with h3 | h3
       ·exact h2 h3
       ·omega
 | [(j1,r1,p1),(j2,r2,p2)],hroots,htri,hargs=>
   simp only [Nk,Bool.and_eq_true,Bool.not_eq_true'] at hroots;obtain ⟨⟨hroot1,hroot2⟩,hap⟩:=hroots;have hroot1:r1∉rs:=by simpa using hroot1
   have hroot2:r2∉rs:=by simpa using hroot2
   obtain ⟨T1,u1,x1,T2,u2,x2,_,hjj,hT1,hs1,hv1,hT2,hs2,hv2,hx1,hx2,hrd⟩:=Awv h hr hargs;obtain ⟨fu1,fu2,hru1,hru2,hndu,mf1,mf2,hback⟩:=A2a h hT1 hT2 hs1 hs2 hap hv1 hv2;have hsof : ∀b∈fu1++fu2,Sof fp b:=λb hb=>by
    rcases List.mem_append.1 hb with h1 | h1
    ·exact ⟨r1,mf1 b h1⟩
    ·exact ⟨r2,mf2 b h1⟩
   have hfuO : ∀b∈fu1++fu2,O b/\b<w.heap.size:=λb hb=>by obtain ⟨s,hs⟩:=hsof b hb;exact h.sim.fpO s b hs
   have key : ∀(Oc:Nat->Prop),(∀b,¬O b->b<w.heap.size->¬Oc b)->(∀q∈rs,∀b∈fp q,¬Oc b)->(∀b∈fu1++fu2,Oc b) ->
     (∀(res:V) (o1 o2:V) (w':World) (O':Nat->Prop) (rv:Value) (fpr fo1 fo2:List Nat),Co rs res=true->Co rs o1=true->Co rs o2=true ->
      Mv w Oc (· ∈ fu1++fu2) w' O' (· ∈ fpr++(fo1++fo2))->RdL w' O' [res] [rv] fpr->RdL w' O' [o1] [x1] fo1->RdL w' O' [o2] [x2] fo2 ->
      ∃O2:Nat->Prop,(∀b,b<w.heap.size->b∉fu1++fu2->(O2 b↔O b))/\RdL w' O2 [res] [rv] fpr/\RdL w' O2 [o1] [x1] fo1/\RdL w' O2 [o2] [x2] fo2) ->
     o.upon P a next Q ((execOp a.eval o).run P w):=by
    intro Oc c1 c2 c3 c4;have g1:RdL w Oc [u1] [x1] fu1:=hru1.frame (λb hb=>⟨rfl,c3 b (by simp [hb])⟩) (λb hb hlt=>⟨rfl,c1 b hb hlt⟩);have g2:RdL w Oc [u2] [x2] fu2:=hru2.frame (λb hb=>⟨rfl,c3 b (by simp [hb])⟩) (λb hb hlt=>⟨rfl,c1 b hb hlt⟩);have hargsR:RdL w Oc Vs us (fu1++fu2):=hrd Oc fu1 fu2 c1 c2 g1 g2;obtain ⟨hfn,hcall⟩:=htri Oc (fu1++fu2) c1 hargsR hndu;rw [hrun hfn];refine hcall.mono ?_;rintro e w' ⟨res,outs,rv,O',fpr,fpo,hRR,rfl,r0,ro,hnd,hm⟩;simp only [Ga] at hRR;obtain ⟨hokr,hRR⟩:=hRR;split at hRR
    case h_2=>exact hRR.elim
    rename_i o1 o2 hout1 hout2;obtain ⟨hok,hRR⟩:=hRR;simp only [Bool.and_eq_true] at hok;obtain ⟨hok1,hok2⟩:=hok;split at hRR
    case h_2=>exact hRR.elim
    rename_i σ' hσ';obtain ⟨lo,ro',vlo,y1,vro,flo,fo1,fro,e1,e2,e3,hlo,hvlo,_,ro1,rr⟩:=ro.at hout1;have hout2':ro'[j2-j1-1]? = some o2:=by rw [e1,List.getElem?_append_right (by omega),hlo] at hout2;rw [show j2-j1=(j2-j1-1)+1 by omega,List.getElem?_cons_succ] at hout2;exact hout2
    obtain ⟨lo2,ro2',vlo2,y2,vro2,flo2,fo2,fro2,f1,f2,f3,hlo2,hvlo2,_,ro2,_⟩:=rr.at hout2';simp only [Nat.sub_zero] at hx1 hx2;have hy1:us[j1]? = some y1:=by rw [e2,List.getElem?_append_right (by omega),hvlo];simp
    have hy2:us[j2]? = some y2:=by rw [e2,List.getElem?_append_right (by omega),hvlo,show j2-j1=(j2-j1-1)+1 by omega,List.getElem?_cons_succ,f2,List.getElem?_append_right (by omega),hvlo2];simp
    rw [hx1] at hy1;cases hy1;rw [hx2] at hy2;cases hy2;have hndro:=List.nodup_append.1 hnd;have hndo:(fo1++fo2).Nodup:=by have h1:=hndro.2.1;rw [e3] at h1;have h2:=(List.nodup_append.1 h1).2.1;rw [f3] at h2;have h3:=List.nodup_append.1 h2;have h4:=(List.nodup_append.1 h3.2.1).2.1;exact List.nodup_append.2 ⟨h3.1,(List.nodup_append.1 h4).1,λb hb c hc=>h3.2.2 b hb c (by simp [hc])⟩
    have hfuo : ∀b∈fo1++fo2,b∈fpo:=λb hb=>by rw [e3,f3];rcases List.mem_append.1 hb with h | h<;>simp [h]
    have hm':Mv w Oc (· ∈ fu1++fu2) w' O' (· ∈ fpr++(fo1++fo2)):=hm.shrink λb hb=>by
     rcases List.mem_append.1 hb with h | h
     ·simp [h]
     ·exact List.mem_append_right _ (hfuo b h)
    obtain ⟨O2,hO2,r2',ro1',ro2'⟩:=c4 res o1 o2 w' O' rv fpr fo1 fo2 hokr hok1 hok2 hm' r0 ro1 ro2;have hsame : ∀b,b<w.heap.size->b∉fu1++fu2->w'.heap[b]? = w.heap[b]? := λb hb hbu=>(hm.same b hb hbu).1
    have hst:Li w O w' O2:=λb hb hlt=>by
     have hbu:b∉fu1++fu2:=λhh=>hb (hfuO b hh).1
     exact ⟨hsame b hlt hbu,λhh=>hb ((hO2 b hlt hbu).1 hh)⟩
    have hnew : ∀b,b∈fpr\/b∈fo1++fo2->b∈fu1++fu2\/w.heap.size<=b:=λb hb=>hm'.new b (by simpa using hb)
    have hnotold : ∀b,b∈fpr\/b∈fo1++fo2->Sof fp b->b∈fu1++fu2:=by
     rintro b hb ⟨s,hs⟩;rcases hnew b hb with h1 | h1
     ·exact h1
     ·have:=(h.sim.fpO s b hs).2;omega
    obtain ⟨fp1,o1',hfp1⟩:=hback w' O2 o1 o2 fo1 fo2 σ' hst (λb hb hbu=>by obtain ⟨s,hs⟩:=hb;obtain ⟨hO,hlt⟩:=h.sim.fpO s b hs;exact ⟨hsame b hlt hbu,(hO2 b hlt hbu).2 hO⟩) ro1' ro2' hndo (λb hb hs=>hnotold b (.inr hb) hs) hσ';obtain ⟨fp',o2',s2⟩:=o1'.put_own hN r2' hndro.1 (by
     intro b hb hs;rcases hfp1 b hs with ⟨k1,k2⟩ | k1
     ·exact k2 (hnotold b (.inl hb) k1)
     ·exact hndro.2.2 b hb b (hfuo b k1) rfl)
    refine hn _ _ _ _ _ _ hRR (by rw [hd];exact o2') ⟨hm.os,hm.tape,hm.output,hm.size,λb hb hS=> ?_,λb hb=> ?_⟩
    ·have hbu:b∉fu1++fu2:=λhh=>hS (hsof b hh)
     exact ⟨hsame b hb hbu,hO2 b hb hbu⟩
    ·rcases s2 b hb with h1 | h1
     ·rcases hfp1 b h1 with ⟨k1,_⟩ | k1
      ·exact .inl k1
      ·rcases hnew b (.inr k1) with h3 | h3
       ·exact .inl (hsof b h3)
       ·exact .inr h3
     ·rcases hnew b (.inl h1) with h3 | h3
      ·exact .inl (hsof b h3)
      ·exact .inr h3
   by_cases hrs:rs=[]
   ·subst hrs;refine key O (λb hb _=>hb) (by simp) (λb hb=>(hfuO b hb).1) ?_;intro res o1 o2 w' O' rv fpr fo1 fo2 _ _ _ hm r1 ro1 ro2;exact ⟨O',λb hb hbu=>(hm.same b hb hbu).2,r1,ro1,ro2⟩
   ·refine key (· ∈ fu1++fu2) (λb hb _ hbu=>hb (hfuO b hbu).1) ?_ (λb hb=>hb) ?_
    ·intro q hq b hb hbu;rcases List.mem_append.1 hbu with h1 | h1
     ·have:=h.sim.dj q r1 b hb (mf1 b h1);subst this;exact hroot1 hq
     ·have:=h.sim.dj q r2 b hb (mf2 b h1);subst this;exact hroot2 hq
    ·intro res o1 o2 w' O' rv fpr fo1 fo2 hokr hok1 hok2 hm r1 ro1 ro2;have n0:res.noFz=true:=by simpa [Co,hrs] using hokr
     have n1:o1.noFz=true:=by simpa [Co,hrs] using hok1
     have n2:o2.noFz=true:=by simpa [Co,hrs] using hok2
     have hout : ∀b,b∈fpr++(fo1++fo2)->¬(b<w.heap.size/\b∉fu1++fu2):=by
      rintro b hb ⟨h1,h2⟩;rcases hm.new b hb with h3 | h3
      ·exact h2 h3
      ·omega
     refine ⟨λb=>if b<w.heap.size/\b∉fu1++fu2 then O b else b∈fpr++(fo1++fo2),λb hb hbu=>by simp only [hb,hbu,not_false_eq_true,and_self,if_true],?_,?_,?_⟩
     ·refine r1.retag (by simp [Bq,n0]) λb hb=> ?_
      have hb':b∈fpr++(fo1++fo2):=by simp [hb]
      rw [if_neg (hout b hb')];exact hb'
     ·refine ro1.retag (by simp [Bq,n1]) λb hb=> ?_
      have hb':b∈fpr++(fo1++fo2):=by simp [hb]
      rw [if_neg (hout b hb')];exact hb'
     ·refine ro2.retag (by simp [Bq,n2]) λb hb=> ?_
      have hb':b∈fpr++(fo1++fo2):=by simp [hb]
      rw [if_neg (hout b hb')];exact hb'
 | _::_::_::_,hroots,_,_=>simp [Nk] at hroots
theorem At0 {σ:St} : ∀ {as:List (A×Bool)} {k:Nat} {vs ls rs},Ft σ as k=some (vs,ls,rs)->vs.length=as.length:=by
 intro as
 induction as with
 | nil=>intro k vs ls rs h;simp [Ft] at h;simp [h.1]
 | cons e r ih=>
   intro k vs ls rs h;obtain ⟨a,io⟩:=e;simp only [Ft] at h;split at h
   ·cases h
   ·rename_i h1;split at h
    ·cases h;simp [ih h1]
    ·split at h
     ·cases h;simp [ih h1]
     ·cases h
theorem Aob {P:Program} {o:Oper} {σ a w O gv N vals fp} {f d:Nat} {as:List (A×Bool)} {us:List Value} {K:St->Prop} {next Q} (h:Ok σ a w O gv N vals fp) (hd:o.dst=some d) (hN:d<N)
  (hr:RelL w O (look σ) vals (as.map (·.1)) us) (ha:J5 P f d as K σ) (hn:Nb w O gv N fp K next)
  (hrun:(∃fn c,P.funcs[f]? = some fn∧(fn.name == "runtime.NumGoroutine")=false∧fn.body=some c)→(execOp a.eval o).run P w = .ok (.enter f us.toArray) w):o.wp P a w next Q:=by
 unfold J5 at ha;split at ha
 ·-- parts of a group are lent
  rename_i pre g bs rest hg;have eas:=Ati hg;subst eas;split at ha
  case h_2=>exact ha.elim
  rename_i Vs ls rs hargs;obtain ⟨hroots,htri⟩:=ha;rw [List.map_append] at hr;obtain ⟨us0,us1,eus,hr0,hr'⟩:=RelL.split hr;subst eus
  match us1,hr'.length with
  | u0::us,_=>
  have hr':RelL w O (look σ) vals (A8t g bs::rest.map (·.1)) (u0::us):=hr';obtain ⟨hr1,hr2⟩:=hr'.uncons;obtain ⟨bvs,rfl,s⟩ : ∃bvs,u0=Akn g bvs/\RelL w O (look σ) vals bs bvs:=by
   cases g with
   | none=>cases hr1 with | agg s t=>exact ⟨_,rfl,s⟩
   | some f=>cases hr1 with | clo s t=>exact ⟨_,rfl,s⟩
  have hl:=At0 hargs;have hl0:=hr0.length;have hrr:RelL w O (look σ) vals ((pre++(bs.map (·,true)++rest)).map (·.1)) (us0++(bvs++us)):=by
   rw [List.map_append,List.map_append,List.map_map];have e:bs.map ((·.1)∘λx:A=>(x,true))=bs:=by rw [show ((·.1)∘λx:A=>(x,true))=(id:A->A) from rfl,List.map_id]
   rw [e];exact hr0.append (s.append hr2)
  have hp:us0.length=pre.length:=by simpa using hl0
  have hb:bvs.length=bs.length:=s.length;rw [<-hp,<-hb] at htri;exact Ar9 h hd hN hrr hargs hroots (Tri.toAgg (by rw [hl];simp;omega) htri).toW hn hrun
 split at ha
 case h_2=>exact ha.elim
 rename_i Vs ls rs hargs;obtain ⟨hroots,htri⟩:=ha;exact Ar9 h hd hN hr hargs hroots htri.toL.toW hn hrun
end Go.Proofs.Ytaalgpkajkogkaa.Ax
