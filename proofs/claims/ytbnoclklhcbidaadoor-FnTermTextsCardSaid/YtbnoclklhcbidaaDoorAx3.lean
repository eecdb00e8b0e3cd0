/-
 Part of the proof; see the last text of the claim.
-/
import Derived.Test.YtbnoclklhcbidaaDoorAx2
import Derived.StillTail
import Derived.OrdersHeld
namespace Go.Proofs.YtbnoclklhcbidaaDoor.Ax
open Go
structure G where
 g:Option (Nat×Bool)
 o:AOp
def AOp.dst:AOp→Option Nat
 | .mov d _=>some d
 | .asg d _=>some d
 | .asgf d _=>some d
 | .pick d _ _ _=>some d
 | .bin d _ _ _=>some d
 | .binb d _ _ _=>some d
 | .un d _ _=>some d
 | .cnv d _ _=>some d
 | .len d _=>some d
 | .slen d _=>some d
 | .sidx d _ _=>some d
 | .ssl d _ _ _=>some d
 | .max d _ _=>some d
 | .ext d _ _=>some d
 | .iad d _ _ _=>some d
 | .aad d _ _ _ _=>some d
 | .fadr d _ _=>some d
 | .ld d _ _ _=>some d
 | .st _ _ _=>none
 | .fld d _ _ _ _=>some d
 | .idx d _ _ _ _ _=>some d
 | .box d _=>some d
 | .alc d _=>some d
 | .mk d _ _ _=>some d
 | .mkc d _ _ _=>some d
 | .slt d _ _ _=>some d
 | .bsl d _ _=>some d
 | .mkr d _ _ _=>some d
 | .bslr d _ _=>some d
 | .bld d _ _=>some d
 | .app d _ _ _=>some d
 | .slc d _ _ _ _=>some d
 | .nck d _=>some d
 | .mkf d _ _=>some d
 | .call d _ _=>some d
 | .cally d _ _ _=>some d
 | .mkm d _=>some d
 | .mlk d _ _ _ _ _=>some d
 | .mup _ _ _ _=>none
 | .mln d _=>some d
 | .bstr d _=>some d
 | .tie _ _=>none
 | .alf d=>some d
 | .alb d _ _=>some d
 | .bse d _=>some d
 | .boxk d _ _=>some d
 | .nilq d _ _=>some d
def C0 (σ:St) (as:List (X×Bool)):List (A×Bool):=as.map fun e=>(Ai σ e.1,e.2)
theorem Af5 {σ:St} {as:List (X×Bool)} (h:as.all (fun e => !e.2)=true):Gn (C0 σ as)=none:=by
 refine Xb fun e he=> ?_
 obtain ⟨x,hx,rfl⟩:=List.mem_map.1 he
 simpa using List.all_eq_true.1 h x hx
def Qg:List Bool→List A→List (A×Bool)
 | _,[]=>[]
 | [],a::r=>(a,false)::Qg [] r
 | m::ms,a::r=>(a,m)::Qg ms r
theorem Ub : ∀(ms:List Bool) (as:List A),(Qg ms as).map (·.1)=as
 | _,[]=>by cases ‹List Bool› <;> rfl
 | [],a::r=>by simp [Qg,Ub [] r]
 | m::ms,a::r=>by simp [Qg,Ub ms r]
def Rn (ms:List Bool):A→Option (Nat×List (A×Bool))
 | .val (.clo f cs)=>some (f,cs.map fun c=>(.val c,false))
 | .val (.fclo f cs)=>some (f,(fzL cs).map fun c=>(.val c,false))
 | .clo f as=>some (f,Qg ms as)
 | _=>none
theorem Avv {w O f cs v fp} (h:RdL w O [.clo f cs] [v] fp) : ∃us:List Value,v = .func (.func f) #[] us.toArray∧RdL w O cs us fp:=by
 cases h with
 | leaf hl _=>cases hl
 | grp hg s t=>cases hg;cases t;exact ⟨_,rfl,by simpa using s⟩
 | fblk hh _ _ _ _=>cases hh
 | oblk hh _ _ _ _ _=>cases hh
theorem Ar4 {w O tv f cs v fp} (h:RdL w O [.clov tv f cs] [v] fp) : ∃us:List Value,v = .func (.func f) #[] us.toArray∧RdL w O cs us fp:=by
 cases h with
 | leaf hl _=>cases hl
 | grp hg s t=>cases hg;rename_i e;cases t;exact ⟨_,e,by simpa using s⟩
 | fblk hh _ _ _ _=>cases hh
 | oblk hh _ _ _ _ _=>cases hh
def Agb (σ:St):A→A
 | .ref r p=>match Bl σ r p with
   | some (.clov _ f cs)=> .clo f (Fg r p 0 cs)
   | _=> .ref r p
 | a=>a
theorem Arz {σ a w O gv N vals fp} (h:Ok σ a w O gv N vals fp) {y:A} {v:Value} (hr:RelL w O (look σ) vals [y] [v]):RelL w O (look σ) vals [Agb σ y] [v]:=by
 unfold Agb
 split
 ·rename_i r p
  split
  ·rename_i tv f cs hn
   cases hr with
   | @ref _ _ T u _ _ _ hL hs hv _=>
     have hu:u = .clov tv f cs:=by simpa [Bl,hL,hs] using hn
     subst hu
     obtain ⟨z,f1,fu,f2,_,hz,hru,_⟩:=ctx p (h.sim.own r T hL) hs
     rw [hv] at hz;cases hz
     obtain ⟨us,rfl,s⟩:=Ar4 hru
     obtain ⟨vs,h0,h1,h2⟩:=Tt h hL hs rfl hv cs 0 (fun j _=>by simp [V.kids])
     have hlen:=s.length
     have:vs=us:=by
      refine List.ext_getElem? fun j=> ?_
      by_cases hj:j<vs.length
      ·have:=h1 j hj
       simpa [Fa] using this.symm
      ·rw [List.getElem?_eq_none (by omega),List.getElem?_eq_none (by omega)]
     subst this
     exact .clo h2 .nil
  exact hr
 exact hr
def As1:A→Option (Nat×List A×List A)
 | .tie true f p q=>some (f,p,q)
 | _=>none
theorem Hn.pre {w O gv N fp K next w1 O1 fp1} (h:Hn w O gv N fp K next) (hm:Mv w O (Sof fp) w1 O1 (Sof fp1)):Hn w1 O1 gv N fp1 K next:=
 fun σ' a' w' O' vals' fp' hk ho hm'=>h σ' a' w' O' vals' fp' hk ho (hm.trans hm')
def X4 (o:AOp) (σ:St):St:=match o with
 | .slc _ _ (.t s) _ _=>(match look σ s with
   | .val T=>(match T.hasOwn with
     | true=>Aan s σ
     | false=>σ)
   | _=>σ)
 | _=>σ
theorem Ast {σ a w O gv N vals fp} (o:AOp) (h:Ok σ a w O gv N vals fp) : ∃O' fp',Ok (X4 o σ) a w O' gv N vals fp'∧Mv w O (Sof fp) w O' (Sof fp'):=by
 unfold X4
 split
 ·split
  ·split
   ·exact W8 _ h
   exact ⟨O,fp,h,Mv.refl _ _ _⟩
  exact ⟨O,fp,h,Mv.refl _ _ _⟩
 exact ⟨O,fp,h,Mv.refl _ _ _⟩
def P3 (P:Program) (o:AOp) (K:St→Prop) (σ:St):Prop:=match o with
 | .call d f as=>F0 P f d (C0 σ as) K σ
 | .cally d x as ms=>match Rn ms (Agb σ (Ai σ x)) with
   | some (f,cs)=>F0 P f d (C0 σ (as.map (·,false))++cs) K σ
   | none=>(match As1 (Ai σ x) with
     | some (f,p,q)=>Ob P f as.length p.length d (C0 σ (as.map (·,false))++Qg ms (p ++ .val .dead::q)) K σ
     | none=>False)
 | o=>match Bt o (X4 o σ) with
   | some σ'=>K σ'
   | none=>False
def Agu:List (X×Bool)→List Nat
 | []=>[]
 | (.t s,true)::r=>s::Agu r
 | (.t _,false)::r=>Agu r
 | (.c _,_)::r=>Agu r
def Wi:List (X×Bool)→St→St
 | [],σ=>σ
 | (.t s,false)::r,σ=>Wi r (match look σ s with
   | .val T=>(match T.hasOwn with
     | true=>Aan s σ
     | false=>σ)
   | _=>σ)
 | (.t _,true)::r,σ=>Wi r σ
 | (.c _,_)::r,σ=>Wi r σ
def Sx (o:AOp) (σ:St):St:=match o with
 | .call _ _ as=>(match Agu as with
   | []=>σ
   | _::_=>Wi as σ)
 | _=>σ
theorem Aps {a w gv N vals} : ∀(as:List (X×Bool)) {σ O fp},Ok σ a w O gv N vals fp → ∃O' fp',Ok (Wi as σ) a w O' gv N vals fp'∧Mv w O (Sof fp) w O' (Sof fp'):=by
 intro as
 induction as with
 | nil=>intro σ O fp h;exact ⟨O,fp,h,Mv.refl _ _ _⟩
 | cons e r ih=>
   intro σ O fp h
   obtain ⟨x,io⟩:=e
   cases x with
   | c v=>exact ih h
   | t s=>
     cases io with
     | true=>exact ih h
     | false=>
       simp only [Wi]
       split
       ·split
        ·obtain ⟨O1,fp1,h1,m1⟩:=W8 s h
         obtain ⟨O2,fp2,h2,m2⟩:=ih h1
         exact ⟨O2,fp2,h2,m1.trans m2⟩
        ·exact ih h
       ·exact ih h
theorem Ap6 {σ a w O gv N vals fp} (o:AOp) (h:Ok σ a w O gv N vals fp) : ∃O' fp',Ok (Sx o σ) a w O' gv N vals fp'∧Mv w O (Sof fp) w O' (Sof fp'):=by
 unfold Sx
 split
 ·split
  ·exact ⟨O,fp,h,Mv.refl _ _ _⟩
  exact Aps _ h
 exact ⟨O,fp,h,Mv.refl _ _ _⟩
def un (o:AOp):G:=⟨none,o⟩
def L7 (P:Program) (o:AOp) (K:St→Prop) (σ:St):Prop:=P3 P o K (Sx o σ)
def Sr (o:AOp) (σ:St):St:=match o.dst with
 | some d=>Au d (.val (.tup [])) σ
 | none=>σ
def Eh (P:Program):List G→(St→Prop)→St→Prop
 | [],K,σ=>K σ
 | x::r,K,σ=>match x.g with
   | none=>L7 P x.o (Eh P r K) σ
   | some (s,want)=>match look σ s with
     | .val (.bool b)=>(b=want→L7 P x.o (Eh P r K) σ)∧(b=(!want)→Eh P r K (Sr x.o σ))
     | .val (.tup [])=>Eh P r K (Sr x.o σ)
     | _=>False
def Rl (P:Program) (N:Nat) (o:Oper) (ao:AOp):Bool:=match ao with
 | .call d f as=>o.dst==some d&&decide (d<N)&&(match o.op with
   | .call { callee:= .value (.func f'),args,.. }=>f'==f&&Kq N (as.map (·.1)) args.toList
   | _=>false)
 | .cally d x as _=>o.dst==some d&&decide (d<N)&&(match o.op with
   | .call { callee:= .value c,args,.. }=>Av N x c&&Kq N as args.toList
   | _=>false)
 | ao=>A9 P N o ao
def Aeg (P:Program) (N:Nat) (ops:Array Oper) (x:G) (o:Oper):Bool:=Rl P N o x.o&&o.dst==x.o.dst&&(match x.o.dst with | some d=>decide (d<N) | none=>true) &&
 (match x.g,o.guard with
 | none,none=>true
 | some (s,want),some (j,want')=>want==want'&&decide (s<N)&&(match (ops[j]?).bind (·.dst) with | some s'=>s'==s | none=>false)
 | _,_=>false)
def Dd (P:Program) (N:Nat) (ops:Array Oper):List G→List Oper→Bool
 | [],[]=>true
 | x::xs,o::os=>Aeg P N ops x o&&Dd P N ops xs os
 | _,_=>false
theorem Aam {P:Program} {f:FuncId} {fn:Func} {c:Code} (hf:P.funcs[f]? = some fn) (hname:(fn.name == "runtime.NumGoroutine")=false) (hb:fn.body=some c) (args:Array Value) (w:World) :
  (callFunc f args).run P w = .ok (.enter f args) w:=by
 have hn:¬fn.name = "runtime.NumGoroutine" := by simpa using hname
 simp [callFunc,hf,hn,hb]
theorem Auy {w O f cs v fp} (h:RdL w O [.fclo f cs] [v] fp) : ∃us:List Value,v = .func (.func f) #[] us.toArray∧RdL w O (fzL cs) us fp:=by
 cases h with
 | leaf hl _=>cases hl
 | grp hg s t=>
   cases hg with
   | fclo _ _ _ _ e=>subst e;cases t;exact ⟨_,rfl,by simpa using s⟩
 | fblk hh _ _ _ _=>cases hh
 | oblk hh _ _ _ _ _=>cases hh
theorem Ac1 {σ a w O gv N vals fp} (h:Ok σ a w O gv N vals fp) {as:List (X×Bool)} {os:List Operand} (hf:Kq N (as.map (·.1)) os=true) :
  RelL w O (look σ) vals ((C0 σ as).map (·.1)) (os.map a.eval):=by
 have:=Wz h hf
 simpa [C0,Function.comp_def] using this
theorem Yb {P:Program} {o:Oper} {ao:AOp} {σ a w O gv N vals fp} {K:St→Prop} {next Q} (hf:Rl P N o ao=true) (h:Ok σ a w O gv N vals fp) (ha:P3 P ao K σ) (hn:Hn w O gv N fp K next) :
  o.wp P a w next Q:=by
 have other:(∀d f as,ao ≠ .call d f as)→(∀d x as ms,ao ≠ .cally d x as ms)→o.wp P a w next Q:=by
  intro h1 h2
  have hf':A9 P N o ao=true:=by
   cases ao<;>first | exact hf | exact absurd rfl (h1 _ _ _) | exact absurd rfl (h2 _ _ _ _)
  obtain ⟨O1,fp1,ho1,hm1⟩:=Ast ao h
  have ha':match Bt ao (X4 ao σ) with | some σ'=>K σ' | none=>False:=by
   cases ao<;>first | exact ha | exact absurd rfl (h1 _ _ _) | exact absurd rfl (h2 _ _ _ _)
  split at ha'
  ·rename_i σ' hs
   exact M9 (K2 hf' ho1 hs) ha' (Hn.pre hn hm1)
  ·exact ha'.elim
 by_cases h1 : ∃d f as,ao = .call d f as
 ·obtain ⟨d,f,as,rfl⟩:=h1
  simp only [Rl,Bool.and_eq_true,beq_iff_eq,decide_eq_true_eq] at hf
  obtain ⟨⟨hd,hN⟩,hf⟩:=hf
  split at hf
  case h_2=>cases hf
  rename_i f' args ats ho
  simp only [Bool.and_eq_true,beq_iff_eq] at hf
  obtain ⟨rfl,hx⟩:=hf
  refine Aer h hd hN (Ac1 h hx) ha hn ?_
  rintro ⟨fn,c,g1,g2,g3⟩
  have e:(args.toList.map a.eval).toArray=args.map a.eval:=by rw [←Array.toList_map]
  rw [e]
  have:=Aam (P:=P) g1 g2 g3 (args.map a.eval) w
  simp [execOp,ho,resolve,Act.eval,Deferred.ofValue,invoke,this]
 by_cases h2 : ∃d x as ms,ao = .cally d x as ms
 ·obtain ⟨d,x,as,ms,rfl⟩:=h2
  simp only [Rl,Bool.and_eq_true,beq_iff_eq,decide_eq_true_eq] at hf
  obtain ⟨⟨hd,hN⟩,hf⟩:=hf
  split at hf
  case h_2=>cases hf
  rename_i c args ats ho
  simp only [Bool.and_eq_true] at hf
  obtain ⟨hx,has⟩:=hf
  simp only [P3] at ha
  have hrx:=Aq h hx
  have hrx0:=Arz h hrx
  have hras:=Ac1 h (as:=as.map (·,false)) (os:=args.toList) (by simpa [Function.comp_def] using has)
  split at ha
  case h_2=>
   split at ha
   case h_2=>exact ha.elim
   rename_i f p q htcl
   have htc:Ai σ x = .tie true f p q:=by
    generalize Ai σ x=y at htcl
    unfold As1 at htcl
    split at htcl
    ·cases htcl;rfl
    ·cases htcl
   rw [htc] at hrx
   generalize hval:a.eval c=vv at hrx
   cases hrx with
   | @tcl _ _ _ us ws b o' _ _ hc hO s1 s2 _=>
   have hlen:=hras.length
   simp only [C0,List.length_map] at hlen
   refine Alq (us:=args.toList.map a.eval++(us ++ .pointer (some ⟨b,o',none⟩)::ws)) h hd hN (by
    rw [List.map_append,Ub]
    exact hras.append (s1.append (.val rfl (.leaf (.dead _) .nil) s2))) ⟨b,o',_,us,ws,rfl,by simpa using hlen,s1.length,hc,hO⟩ ha hn ?_
   rintro ⟨fn,c',g1,g2,g3⟩
   have e:(args.toList.map a.eval++(us ++ .pointer (some ⟨b,o',none⟩)::ws)).toArray=args.map a.eval++(us ++ .pointer (some ⟨b,o',none⟩)::ws).toArray:=by
    apply Array.toList_inj.1;simp
   rw [e]
   have:=Aam (P:=P) g1 g2 g3 (args.map a.eval++(us ++ .pointer (some ⟨b,o',none⟩)::ws).toArray) w
   simp only [execOp,ho,resolve,hval,Deferred.ofValue,invoke]
   simpa using this
  rename_i f cs hclo
  obtain ⟨us,hval,hus⟩ : ∃us:List Value,a.eval c = .func (.func f) #[] us.toArray∧RelL w O (look σ) vals (cs.map (·.1)) us:=by
   generalize Agb σ (Ai σ x)=y at hrx0 hclo
   generalize a.eval c=v at hrx0
   cases hrx0 with
   | @val z v _ _ hn' hr _=>
     cases z with
     | clo f' cs'=>
       simp [Rn] at hclo
       obtain ⟨rfl,rfl⟩:=hclo
       obtain ⟨us,rfl,s⟩:=Avv hr
       refine ⟨us,rfl,?_⟩
       have:=Ty (L:=look σ) (vals:=vals) s (by simpa [V.hasOwn] using hn')
       simpa [Function.comp_def] using this
     | fclo f' cs'=>
       simp [Rn] at hclo
       obtain ⟨rfl,rfl⟩:=hclo
       obtain ⟨us,rfl,s⟩:=Auy hr
       refine ⟨us,rfl,?_⟩
       have:=Ty (L:=look σ) (vals:=vals) s (K7 cs')
       simpa [Function.comp_def] using this
     | _=>simp [Rn] at hclo
   | clo s t=>cases t;simp [Rn] at hclo;obtain ⟨rfl,rfl⟩:=hclo;exact ⟨_,rfl,by rw [Ub];exact s⟩
   | _=>simp [Rn] at hclo
  refine Aer (us:=args.toList.map a.eval++us) h hd hN (by rw [List.map_append];exact hras.append hus) ha hn ?_
  rintro ⟨fn,c',g1,g2,g3⟩
  have e:(args.toList.map a.eval++us).toArray=args.map a.eval++us.toArray:=by
   apply Array.toList_inj.1;simp
  rw [e]
  have:=Aam (P:=P) g1 g2 g3 (args.map a.eval++us.toArray) w
  simp [execOp,ho,resolve,hval,Deferred.ofValue,invoke,this]
 exact other (fun d f as e=>h1 ⟨d,f,as,e⟩) (fun d x as ms e=>h2 ⟨d,x,as,ms,e⟩)
theorem Ao3 {σ a w O gv N vals fp} {ao:AOp} {o:Oper} (h:Ok σ a w O gv N vals fp) (hd:o.dst=ao.dst) (hN : ∀d,ao.dst=some d→d<N) :
  ∃vals' fp',Ok (Sr ao σ) (a.put o.dst undef) w O gv N vals' fp'∧(∀b,Sof fp' b→Sof fp b):=by
 rw [hd]
 unfold Sr
 cases hdst:ao.dst with
 | none=>exact ⟨vals,fp,h,fun _=>id⟩
 | some d=>
   obtain ⟨fp',h1,h2⟩:=h.put_rel (hN d hdst) (x:= .val (.tup [])) (v:=undef) (.val rfl (RdL.grp (fp1:=[]) (fp2:=[]) (.tup [] []) .nil .nil) .nil)
   exact ⟨_,fp',h1,h2⟩
theorem Ads {σ a w O gv N vals fp} (h:Ok σ a w O gv N vals fp) {ops:Array Oper} {j s:Nat} {b:Bool} (hj:(ops[j]?).bind (·.dst)=some s) (hs:s<N) (hb:look σ s = .val (.bool b)) :
  yielded ops a.tmps j=some b:=by
 have hv:vals s = .bool b:=D6 (h.sim.own s _ hb)
 rw [h.lo s hs] at hv
 unfold yielded
 rw [hj]
 have:a.tmps[s]? = some (.bool b):=by
  have hlt:s<a.tmps.size:=by rw [h.sz];exact hs
  simp [hlt] at hv ⊢
  exact hv
 simp [this]
theorem Aa2 {σ a w O gv N vals fp} (h:Ok σ a w O gv N vals fp) {ops:Array Oper} {j s:Nat} (hj:(ops[j]?).bind (·.dst)=some s) (hs:s<N) (hb:look σ s = .val (.tup [])) :
  yielded ops a.tmps j=none:=by
 obtain ⟨vs,hv,hr⟩:=An5 (h.sim.own s _ hb)
 have hl:=hr.length
 obtain rfl:vs=[]:=by simpa using hl
 rw [h.lo s hs] at hv
 unfold yielded
 rw [hj]
 have:a.tmps[s]? = some (.tuple #[]):=by
  have hlt:s<a.tmps.size:=by rw [h.sz];exact hs
  simp [hlt] at hv ⊢
  exact hv
 simp [this]
theorem Ahf {P:Program} {o:Oper} {ao:AOp} {σ a w O gv N vals fp} {K:St→Prop} {next Q} (hf:Rl P N o ao=true) (h:Ok σ a w O gv N vals fp) (ha:L7 P ao K σ) (hn:Hn w O gv N fp K next) :
  o.wp P a w next Q:=by
 obtain ⟨O1,fp1,ho1,hm1⟩:=Ap6 ao h
 exact Yb hf ho1 ha (Hn.pre hn hm1)
theorem Agy {P:Program} {ops:Array Oper} {Q:Exit→Act→World→Prop} : ∀ {gs:List G} {os:List Oper} {σ a w O gv N vals fp} {K:St→Prop},Dd P N ops gs os=true→Ok σ a w O gv N vals fp→Eh P gs K σ →
  Hn w O gv N fp K (Q .normal)→wpList P ops Q os a w:=by
 intro gs
 induction gs with
 | nil=>
   intro os σ a w O gv N vals fp K hf h ha hn
   cases os with
   | nil=>exact hn _ _ _ _ _ _ ha h (Mv.refl _ _ _)
   | cons _ _=>simp [Dd] at hf
 | cons x r ih=>
   intro os σ a w O gv N vals fp K hf h ha hn
   cases os with
   | nil=>simp [Dd] at hf
   | cons o os=>
     simp only [Dd,Bool.and_eq_true] at hf
     obtain ⟨hx,hr⟩:=hf
     simp only [Aeg,Bool.and_eq_true,beq_iff_eq] at hx
     obtain ⟨⟨⟨hfo,hdst⟩,hdN⟩,hg⟩:=hx
     have hdN' : ∀d,x.o.dst=some d→d<N:=by
      intro d hd;rw [hd] at hdN;simpa using hdN
     have run:L7 P x.o (Eh P r K) σ→o.wp P a w (wpList P ops Q os) Q:=fun hh=>
      Ahf hfo h hh fun σ' a' w' O' vals' fp' hk ho hm=>ih hr ho hk (hn.pre hm)
     have skip:Eh P r K (Sr x.o σ)→wpList P ops Q os (a.put o.dst undef) w:=fun hh=>by
      obtain ⟨vals',fp',h1,h2⟩:=Ao3 h hdst hdN'
      exact ih hr h1 hh (hn.pre ((Mv.refl _ _ _).shrink h2))
     simp only [Eh] at ha
     simp only [wpList]
     split at ha
     ·rename_i hxg
      rw [hxg] at hg
      cases hog:o.guard with
      | none=>
        have hw:Region.wanted o (yielded ops a.tmps)=true:=by simp [Region.wanted,hog]
        rw [if_pos hw]
        exact .inl (run ha)
      | some q=>rw [hog] at hg;simp at hg
     ·rename_i s want hxg
      rw [hxg] at hg
      cases hog:o.guard with
      | none=>rw [hog] at hg;simp at hg
      | some q=>
        obtain ⟨j,want'⟩:=q
        rw [hog] at hg
        simp only [Bool.and_eq_true,beq_iff_eq,decide_eq_true_eq] at hg
        obtain ⟨⟨rfl,hsN⟩,hj⟩:=hg
        split at hj
        case h_2=>cases hj
        rename_i s2 hs2
        have:s2=s:=by simpa using hj
        subst this
        split at ha
        case h_3=>exact ha.elim
        case h_2=>
         rename_i hb
         have hw:Region.wanted o (yielded ops a.tmps)=false:=by simp [Region.wanted,hog,Aa2 h hs2 hsN hb]
         rw [if_neg (by simp [hw])]
         exact skip ha
        rename_i b hb
        have hy:=Ads h hs2 hsN hb
        have hwn:Region.wanted o (yielded ops a.tmps)=(b==want):=by
         simp [Region.wanted,hog,hy]
        rw [hwn]
        by_cases hbw:b=want
        ·rw [if_pos (by simpa using hbw)]
         exact .inl (run (ha.1 hbw))
        ·have hbn:b=(!want):=by cases b<;>cases want<;>simp_all
         rw [if_neg (by simpa using hbw)]
         exact skip (ha.2 hbn)
end Go.Proofs.YtbnoclklhcbidaaDoor.Ax
namespace Go.Proofs.YtbnoclklhcbidaaDoor.Ax
open Go
def nt:A→Option A
 | .top=>none
 | a=>some a
def qR:AOp→St→Option (Nat×A)
 | .mov d x,σ=>(nt (Ai σ x)).map fun a=>(d,upA a)
 | .asg d x,σ=>match Ai σ x with
   | .val v=>some (d,.val v.up)
   | _=>none
 | .pick d c x y,σ=>match Ai σ c with
   | .val (.bool b)=>(nt (if b then Ai σ x else Ai σ y)).map (d,·)
   | _=>none
 | .bin d op x y,σ=>match Da (Ai σ x),Da (Ai σ y) with
   | some u,some v=>if u.isBool then none else (Ny op u v).map fun r=>(d,.val r)
   | _,_=>none
 | .binb d op x y,σ=>match Da (Ai σ x),Da (Ai σ y) with
   | some u,some v=>(Ny op u v).map fun r=>(d,.val r)
   | _,_=>none
 | .un d op x,σ=>match Da (Ai σ x) with
   | some u=>(unV op u).map fun r=>(d,.val r)
   | none=>none
 | .cnv d k x,σ=>match Da (Ai σ x) with
   | some u=>(Auo k u).map fun r=>(d,.val r)
   | none=>none
 | .len d x,σ=>(Y3 σ (Ai σ x)).map fun (n:Nat)=>(d,A.val (V.int .i64 (n:Int)))
 | .sidx d x i,σ=>match Ai σ x,Ai σ i with
   | .val (.str s),.val (.int _ j)=>if 0≤j∧j<(s.size:Int) then some (d,.val (.int .u8 (Cz s j))) else none
   | _,_=>none
 | .ext d x i,σ=>match Ai σ x with
   | .val (.tup vs)=>(vs[i]?).map fun v=>(d,.val v)
   | .ref r p=>match Bl σ r p with
     | some (.tup vs)=>(vs[i]?).map fun v=>(d,Akt r p i v)
     | _=>none
   | _=>none
 | .iad d m x i,σ=>match Ai σ x,Ai σ i with
   | .val (.sl _ m' xs),.val (.int _ j)=>if m'=m∧0≤j∧j<xs.length then some (d,.fad (xs.getD j.toNat .dead).cells) else none
   | .ref r p,.val (.int _ j)=>match Bl σ r p with
     | some (.sl o m' xs)=>if o=true∧m'=m∧0≤j∧j<xs.length then some (d,.addr r p (j.toNat*m)) else none
     | _=>none
   | _,_=>none
 | .aad d m n x i,σ=>match Ez σ (Ai σ x),Ai σ i with
   | some l,.val (.int _ j)=>if 0≤j∧j<n then some (d,Z5 (j.toNat*m) l) else none
   | _,_=>none
 | .fadr d off x,σ=>(Ez σ (Ai σ x)).map fun l=>(d,Z5 off l)
 | .ld d n ag x,σ=>match Ez σ (Ai σ x) with
   | some l=>(Sn σ n ag l).map (d,·)
   | none=>none
 | .nck d x,σ=>(Ez σ (Ai σ x)).map fun _=>(d,Ai σ x)
 | .mk d m z x,σ=>match Ai σ x with
   | .val (.int _ n)=>if 0≤n∧n≤(LIM:Int) then some (d,.val (.sl true m (List.replicate n.toNat z.up))) else none
   | _=>none
 | .mkc d m _ x,σ=>match Ai σ x with
   | .val (.int _ n)=>if 0≤n∧n≤(LIM:Int) then some (d,.val (.sl true m [])) else none
   | _=>none
 | .alc d z,_=>if Cw z.cells then some (d,.val (.ptr true z.up)) else none
 | .bsl d m ps,σ=>match G6 (ps.map (Ai σ)) with
   | some Us=>if L9 m (upL Us) then some (d,.val (.sl true m (upL Us))) else none
   | none=>none
 | .mkr d m z x,σ=>match Ai σ x with
   | .val (.int _ n)=>if 0≤n∧n≤(LIM:Int) then some (d,.val (V.sl true m (List.replicate n.toNat z.up)).fz) else none
   | _=>none
 | .bslr d m ps,σ=>match G6 (ps.map (Ai σ)) with
   | some Us=>if L9 m (upL Us) then some (d,.val (V.sl true m (upL Us)).fz) else none
   | none=>none
 | .bld d z ps,σ=>(X6 σ (z.map .val) ps).map fun as=>(d,upA (mkA true as))
 | .ssl d x lo hi,σ=>(Ai0 (Ai σ x) (lo.map (Ai σ)) (hi.map (Ai σ))).map fun v=>(d,A.val v)
 | .slc d m x lo hi,σ=>(Ael m (Ai σ x) (lo.map (Ai σ)) (hi.map (Ai σ))).map fun v=>(d,A.val v)
 | .mkf d f cs,σ=>match (cs.map (Ai σ)).all (fun a=>(nt a).isSome) with
   | true=>some (d,Ave f (cs.map (Ai σ)))
   | false=>none
 | .box d x,σ=>match Ai σ x with
   | .val U=>if Cw U.up.cells then some (d,.val (.ptr true U.up)) else none
   | _=>none
 | .mkm d kd,_=>some (d,.val (.mp true (Atc kd)))
 | .mln d x,σ=>(mpA σ (Ai σ x)).map fun es=>(d,.val (.int .i64 es.len))
 | .mlk d x k z ok kd,σ=>match mpA σ (Ai σ x),Da (Ai σ k) with
   | some es,some u=>(At6 kd es u z ok).map fun v=>(d,.val v)
   | _,_=>none
 | .bstr d x,σ=>match slA σ (Ai σ x) with
   | some (m,xs)=>if m=1 then (L4 xs).map fun ns=>(d,A.val (.str (Ady ns))) else none
   | none=>none
 | _,_=>none
theorem Aaw {σ:St} : ∀ {as:List A} {Us},G6 as=some Us→Kn σ as=some (upL Us,σ):=by
 intro as
 induction as with
 | nil=>intro Us h;simp [G6] at h;subst h;rfl
 | cons a r ih=>
   intro Us h
   cases a with
   | val v=>
     simp only [G6] at h
     obtain ⟨vs,h1,rfl⟩:=Option.map_eq_some_iff.1 h
     simp [Kn,Fy,Fo,ih h1,upL]
   | _=>simp [G6] at h
theorem Aii {o:AOp} {σ:St} {d:Nat} {a:A} (h:qR o σ=some (d,a)):Bt o σ=some (Au d a σ)∧o.dst=some d:=by
 cases o<;>simp only [qR] at h
 case mov d' x=>
  obtain ⟨b,h1,h2⟩:=Option.map_eq_some_iff.1 h
  cases h2
  have:Ai σ x=b:=by unfold nt at h1;split at h1<;>simp_all
  exact ⟨by simp [Bt,this],rfl⟩
 case asg d' x=>
  split at h
  case h_2=>cases h
  rename_i v hv
  cases h
  exact ⟨by simp [Bt,Alg,hv,upA],rfl⟩
 case pick d' c x y=>
  split at h
  case h_2=>cases h
  rename_i b hb
  obtain ⟨z,h1,h2⟩:=Option.map_eq_some_iff.1 h
  cases h2
  have:(if b=true then Ai σ x else Ai σ y)=a:=by unfold nt at h1;split at h1<;>simp_all
  exact ⟨by simp [Bt,hb,Ahk,this],rfl⟩
 case bin d' op x y=>
  split at h
  case h_2=>cases h
  rename_i u v hu hv
  split at h
  ·cases h
  ·rename_i hb
   obtain ⟨z,h1,h2⟩:=Option.map_eq_some_iff.1 h
   cases h2
   exact ⟨by simp [Bt,Awm,Aqk,hu,hv,hb,h1],rfl⟩
 case binb d' op x y=>
  split at h
  case h_2=>cases h
  rename_i u v hu hv
  obtain ⟨z,h1,h2⟩:=Option.map_eq_some_iff.1 h
  cases h2
  exact ⟨by simp [Bt,Aqk,hu,hv,h1],rfl⟩
 case un d' op x=>
  split at h
  case h_2=>cases h
  rename_i u hu
  obtain ⟨z,h1,h2⟩:=Option.map_eq_some_iff.1 h
  cases h2
  exact ⟨by simp [Bt,unS,hu,h1],rfl⟩
 case cnv d' k x=>
  split at h
  case h_2=>cases h
  rename_i u hu
  obtain ⟨z,h1,h2⟩:=Option.map_eq_some_iff.1 h
  cases h2
  exact ⟨by simp [Bt,Aui,hu,h1],rfl⟩
 case len d' x=>
  obtain ⟨z,h1,h2⟩:=Option.map_eq_some_iff.1 h
  cases h2
  exact ⟨by simp [Bt,Axj,h1],rfl⟩
 case sidx d' x i=>
  split at h
  case h_2=>cases h
  rename_i s k j hx hi
  split at h
  ·rename_i hc;cases h;exact ⟨by simp [Bt,Aph,hx,hi,hc],rfl⟩
  ·cases h
 case ext d' x i=>
  split at h
  ·rename_i vs hx
   obtain ⟨z,h1,h2⟩:=Option.map_eq_some_iff.1 h
   cases h2
   exact ⟨by simp [Bt,Akk,hx,h1],rfl⟩
  ·rename_i r p hx
   split at h
   case h_2=>cases h
   rename_i vs hn
   obtain ⟨z,h1,h2⟩:=Option.map_eq_some_iff.1 h
   cases h2
   exact ⟨by simp [Bt,Akk,hx,hn,h1],rfl⟩
  ·cases h
 case iad d' m x i=>
  split at h
  ·rename_i o m' xs k j hx hi
   split at h
   ·rename_i hc;cases h;exact ⟨by simp [Bt,Ar6,hx,hi,hc],rfl⟩
   ·cases h
  ·rename_i r p k j hx hi
   split at h
   case h_2=>cases h
   rename_i o m' xs hn
   split at h
   ·rename_i hc;cases h;exact ⟨by simp [Bt,Ar6,hx,hi,hn,hc],rfl⟩
   ·cases h
  ·cases h
 case aad d' m n x i=>
  split at h
  case h_2=>cases h
  rename_i l k j hl hi
  split at h
  ·rename_i hc;cases h;exact ⟨by simp [Bt,Avc,hl,hi,hc],rfl⟩
  ·cases h
 case fadr d' off x=>
  obtain ⟨z,h1,h2⟩:=Option.map_eq_some_iff.1 h
  cases h2
  exact ⟨by simp [Bt,Aoq,h1],rfl⟩
 case ld d' n ag x=>
  split at h
  case h_2=>cases h
  rename_i l hl
  obtain ⟨z,h1,h2⟩:=Option.map_eq_some_iff.1 h
  cases h2
  exact ⟨by simp [Bt,ldS,hl,h1],rfl⟩
 case nck d' x=>
  obtain ⟨z,h1,h2⟩:=Option.map_eq_some_iff.1 h
  cases h2
  exact ⟨by simp [Bt,Aud,h1],rfl⟩
 case mk d' m z x=>
  split at h
  case h_2=>cases h
  rename_i k n hx
  split at h
  ·rename_i hc;cases h;exact ⟨by simp [Bt,mkS,hx,hc],rfl⟩
  ·cases h
 case mkc d' m z x=>
  split at h
  case h_2=>cases h
  rename_i k n hx
  split at h
  ·rename_i hc;cases h;exact ⟨by simp [Bt,Aqw,hx,hc],rfl⟩
  ·cases h
 case alc d' z=>
  split at h
  ·rename_i hc;cases h;exact ⟨by simp [Bt,At9,hc],rfl⟩
  ·cases h
 case bsl d' m ps=>
  split at h
  case h_2=>cases h
  rename_i Us hU
  split at h
  ·rename_i hc;cases h;exact ⟨by simp [Bt,Ajt,Aaw hU,hc],rfl⟩
  ·cases h
 case mkr d' m z x=>
  split at h
  case h_2=>cases h
  rename_i k n hx
  split at h
  ·rename_i hc;cases h;exact ⟨by simp [Bt,Aur,hx,hc],rfl⟩
  ·cases h
 case bslr d' m ps=>
  split at h
  case h_2=>cases h
  rename_i Us hU
  split at h
  ·rename_i hc;cases h;exact ⟨by simp [Bt,Aok,Aaw hU,hc],rfl⟩
  ·cases h
 case bld d' z ps=>
  obtain ⟨v,h1,h2⟩:=Option.map_eq_some_iff.1 h
  cases h2
  exact ⟨by simp [Bt,Att,h1],rfl⟩
 case ssl d' x lo hi=>
  obtain ⟨v,h1,h2⟩:=Option.map_eq_some_iff.1 h
  cases h2
  exact ⟨by simp [Bt,Awt,h1],rfl⟩
 case slc d' m x lo hi=>
  obtain ⟨v,h1,h2⟩:=Option.map_eq_some_iff.1 h
  cases h2
  exact ⟨by simp [Bt,Au9,h1],rfl⟩
 case mkf d' f cs=>
  split at h
  ·cases h;exact ⟨rfl,rfl⟩
  ·cases h
 case box d' x=>
  split at h
  case h_2=>cases h
  rename_i U hU
  split at h
  ·rename_i hc;cases h;exact ⟨by simp [Bt,Aua,hU,Fy,Fo,hc,Ajm],rfl⟩
  ·cases h
 case mlk d' x k z ok kd=>
  split at h
  case h_2=>cases h
  rename_i es u h1 h2
  obtain ⟨v,h3,h4⟩:=Option.map_eq_some_iff.1 h
  cases h4
  exact ⟨by simp only [Bt,At7,h1,h2,h3,Option.map_some],rfl⟩
 case mln d' x=>
  obtain ⟨es,h1,h2⟩:=Option.map_eq_some_iff.1 h
  cases h2
  exact ⟨by simp [Bt,Awa,h1],rfl⟩
 case bstr d' x=>
  split at h
  case h_2=>cases h
  rename_i m xs h1
  split at h
  case isFalse=>cases h
  rename_i hm
  obtain ⟨ns,h2,h3⟩:=Option.map_eq_some_iff.1 h
  cases h3
  exact ⟨by simp [Bt,Aod,h1,hm,h2],rfl⟩
 all_goals cases h
 exact ⟨rfl,rfl⟩
def Le (σ τ:St):Prop := ∀s,look σ s = .top∨look τ s=look σ s
theorem Ay {σ τ} (h:Le σ τ) (x:X):Ai σ x = .top∨Ai τ x=Ai σ x:=by
 cases x with
 | c v=>exact .inr rfl
 | t s=>
   rcases h s with h1 | h1
   ·left;simp [Ai,h1]
   ·right;simp [Ai,h1]
theorem Dt {σ τ r p u} (h:Le σ τ) (hn:Bl σ r p=some u):Bl τ r p=some u:=by
 unfold Bl at *
 rcases h r with h1 | h1
 ·rw [h1] at hn;cases hn
 rw [h1];exact hn
theorem Q9 {σ τ a l} (h:Le σ τ) (hl:Ez σ a=some l):Ez τ a=some l:=by
 cases a with
 | ref r p=>
   simp only [Ez] at *
   cases hn:Bl σ r p with
   | none=>rw [hn] at hl;cases hl
   | some u=>rw [hn] at hl;rw [Dt h hn];exact hl
 | val v=>cases v<;>exact hl
 | tie b f p q=>cases b<;>exact hl
 | _=>exact hl
theorem Anw {σ τ n ag l a} (h:Le σ τ) (hl:Sn σ n ag l=some a):Sn τ n ag l=some a:=by
 cases l with
 | own r p c=>
   simp only [Sn] at *
   cases hn:Bl σ r p with
   | none=>rw [hn] at hl;cases hl
   | some u=>rw [hn] at hl;rw [Dt h hn];exact hl
 | fro cs=>exact hl
 | tie f p q=>exact hl
theorem Aq3 {σ τ a n} (h:Le σ τ) (hl:Y3 σ a=some n):Y3 τ a=some n:=by
 cases a with
 | ref r p=>
   simp only [Y3] at *
   cases hn:Bl σ r p with
   | none=>rw [hn] at hl;cases hl
   | some u=>rw [hn] at hl;rw [Dt h hn];exact hl
 | val v=>cases v<;>exact hl
 | _=>exact hl
theorem Ak4 {σ τ a n} (h:Le σ τ) (hl:mpA σ a=some n):mpA τ a=some n:=by
 cases a with
 | ref r p=>
   simp only [mpA] at *
   cases hn:Bl σ r p with
   | none=>rw [hn] at hl;cases hl
   | some u=>rw [hn] at hl;rw [Dt h hn];exact hl
 | val v=>cases v<;>exact hl
 | _=>exact hl
theorem As4 {σ τ a n} (h:Le σ τ) (hl:slA σ a=some n):slA τ a=some n:=by
 cases a with
 | ref r p=>
   simp only [slA] at *
   cases hn:Bl σ r p with
   | none=>rw [hn] at hl;cases hl
   | some u=>rw [hn] at hl;rw [Dt h hn];exact hl
 | val v=>cases v<;>exact hl
 | _=>exact hl
theorem Ou {σ τ} (h:Le σ τ) : ∀ {xs:List X},(∀x∈xs,Ai σ x ≠ .top)→xs.map (Ai τ)=xs.map (Ai σ):=by
 intro xs
 induction xs with
 | nil=>intro _;rfl
 | cons x r ih=>
   intro hx
   simp only [List.map_cons]
   rw [ih fun y hy=>hx y (by simp [hy])]
   rcases Ay h x with h1 | h1
   ·exact absurd h1 (hx x (by simp))
   ·rw [h1]
theorem Yd : ∀ {xs:List X} {σ Us},G6 (xs.map (Ai σ))=some Us → ∀x∈xs,Ai σ x ≠ .top:=by
 intro xs
 induction xs with
 | nil=>intro σ Us _ x hx;simp at hx
 | cons y r ih=>
   intro σ Us h x hx
   simp only [List.map_cons] at h
   cases hy:Ai σ y with
   | val v=>
     rw [hy] at h
     simp only [G6] at h
     obtain ⟨vs,h1,_⟩:=Option.map_eq_some_iff.1 h
     rcases List.mem_cons.1 hx with rfl | hx
     ·rw [hy];simp
     ·exact ih h1 x hx
   | _=>rw [hy] at h;simp [G6] at h
theorem Akc {σ τ a as} (h:Le σ τ) (hc:G5 σ a=some as):G5 τ a=some as:=by
 cases a with
 | ref r p=>
   simp only [G5] at hc ⊢
   cases hn:Bl σ r p with
   | none=>rw [hn] at hc;cases hc
   | some u=>rw [hn] at hc;rw [Dt h hn];exact hc
 | val v=>cases v<;>exact hc
 | top=>cases hc
 | _=>exact hc
theorem Ank {σ τ} (h:Le σ τ) : ∀ {ps:List (Nat×Nat×X)} {cells as:List A},X6 σ cells ps=some as→X6 τ cells ps=some as:=by
 intro ps
 induction ps with
 | nil=>intro cells as hb;exact hb
 | cons e r ih=>
   obtain ⟨off,size,x⟩:=e
   intro cells as hb
   simp only [X6] at hb ⊢
   split at hb
   case h_2=>cases hb
   rename_i cs hcs
   rcases Ay h x with e | e
   ·rw [e] at hcs;cases hcs
   ·rw [e,Akc h hcs]
    split at hb
    ·rename_i hc
     simp only [hc,and_self,if_true]
     exact ih hb
    ·cases hb
theorem Avb {o:AOp} {σ τ:St} {r} (h:Le σ τ) (hq:qR o σ=some r):qR o τ=some r:=by
 cases o<;>simp only [qR] at hq ⊢
 case mov d x=>
  rcases Ay h x with e | e
  ·simp [e,nt] at hq
  ·rw [e];exact hq
 case asg d x=>
  rcases Ay h x with e | e
  ·simp [e] at hq
  ·rw [e];exact hq
 case pick d c x y=>
  rcases Ay h c with e | e
  ·simp [e] at hq
  ·rw [e]
   split at hq
   case h_2=>cases hq
   rename_i b hb
   try simp only [hb]
   cases b
   ·rcases Ay h y with e' | e'
    ·simp [e',nt] at hq
    ·rw [e'];exact hq
   ·rcases Ay h x with e' | e'
    ·simp [e',nt] at hq
    ·rw [e'];exact hq
 case bin d op x y=>
  rcases Ay h x with e | e
  ·simp [e,Da] at hq
  ·rcases Ay h y with e' | e'
   ·simp [e',Da] at hq
   ·rw [e,e'];exact hq
 case binb d op x y=>
  rcases Ay h x with e | e
  ·simp [e,Da] at hq
  ·rcases Ay h y with e' | e'
   ·simp [e',Da] at hq
   ·rw [e,e'];exact hq
 case un d op x=>
  rcases Ay h x with e | e
  ·simp [e,Da] at hq
  ·rw [e];exact hq
 case cnv d k x=>
  rcases Ay h x with e | e
  ·simp [e,Da] at hq
  ·rw [e];exact hq
 case len d x=>
  rcases Ay h x with e | e
  ·simp [e,Y3] at hq
  ·rw [e]
   obtain ⟨z,h1,h2⟩:=Option.map_eq_some_iff.1 hq
   rw [Aq3 h h1];exact congrArg some h2
 case sidx d x i=>
  rcases Ay h x with e | e
  ·simp [e] at hq
  ·rcases Ay h i with e' | e'
   ·rw [e'] at hq;split at hq<;>simp_all
   ·rw [e,e'];exact hq
 case ext d x i=>
  rcases Ay h x with e | e
  ·simp [e] at hq
  ·rw [e]
   split at hq
   ·rename_i vs hx;exact hq
   ·rename_i r' p hx
    try simp only [hx]
    cases hn:Bl σ r' p with
    | none=>rw [hn] at hq;cases hq
    | some u=>rw [hn] at hq;rw [Dt h hn];exact hq
   ·cases hq
 case iad d m x i=>
  rcases Ay h x with e | e
  ·simp [e] at hq
  ·rcases Ay h i with e' | e'
   ·rw [e'] at hq;split at hq<;>simp_all
   ·rw [e,e']
    split at hq
    ·rename_i hx hi;exact hq
    ·rename_i r' p k j hx hi
     try simp only [hx,hi]
     cases hn:Bl σ r' p with
     | none=>rw [hn] at hq;cases hq
     | some u=>rw [hn] at hq;rw [Dt h hn];exact hq
    ·cases hq
 case aad d m n x i=>
  rcases Ay h x with e | e
  ·simp [e,Ez] at hq
  ·rcases Ay h i with e' | e'
   ·rw [e'] at hq;split at hq<;>simp_all
   ·rw [e,e']
    split at hq
    case h_2=>cases hq
    rename_i l k j hl hi
    rw [Q9 h hl];simp only [hi];exact hq
 case fadr d off x=>
  rcases Ay h x with e | e
  ·simp [e,Ez] at hq
  ·rw [e]
   obtain ⟨z,h1,h2⟩:=Option.map_eq_some_iff.1 hq
   rw [Q9 h h1];exact congrArg some h2
 case ld d n ag x=>
  rcases Ay h x with e | e
  ·simp [e,Ez] at hq
  ·rw [e]
   split at hq
   case h_2=>cases hq
   rename_i l hl
   obtain ⟨z,h1,h2⟩:=Option.map_eq_some_iff.1 hq
   simp only [Q9 h hl,Anw h h1];exact congrArg some h2
 case nck d x=>
  rcases Ay h x with e | e
  ·simp [e,Ez] at hq
  ·rw [e]
   obtain ⟨z,h1,h2⟩:=Option.map_eq_some_iff.1 hq
   rw [Q9 h h1];exact congrArg some h2
 case mk d m z x=>
  rcases Ay h x with e | e
  ·simp [e] at hq
  ·rw [e];exact hq
 case mkc d m z x=>
  rcases Ay h x with e | e
  ·simp [e] at hq
  ·rw [e];exact hq
 case alc d z=>exact hq
 case bsl d m ps=>
  split at hq
  case h_2=>cases hq
  rename_i Us hU
  rw [Ou h (Yd hU),hU];exact hq
 case mkr d m z x=>
  rcases Ay h x with e | e
  ·simp [e] at hq
  ·rw [e];exact hq
 case bslr d m ps=>
  split at hq
  case h_2=>cases hq
  rename_i Us hU
  rw [Ou h (Yd hU),hU];exact hq
 case bld d z ps=>
  obtain ⟨as,h1,h2⟩:=Option.map_eq_some_iff.1 hq
  rw [Ank h h1];simpa using h2
 case ssl d x lo hi=>
  rcases Ay h x with e | e
  ·rw [e] at hq;simp [Ai0] at hq
  rw [e]
  have hlo:lo.map (Ai τ)=lo.map (Ai σ):=by
   cases lo with
   | none=>rfl
   | some y=>
     rcases Ay h y with e' | e'
     ·simp only [Option.map_some,e'] at hq;rw [Au4] at hq;cases hq
     ·simp [e']
  have hhi:hi.map (Ai τ)=hi.map (Ai σ):=by
   cases hi with
   | none=>rfl
   | some y=>
     rcases Ay h y with e' | e'
     ·simp only [Option.map_some,e'] at hq;rw [Aum] at hq;cases hq
     ·simp [e']
  rw [hlo,hhi];exact hq
 case slc d m x lo hi=>
  rcases Ay h x with e | e
  ·rw [e] at hq;simp [Ael] at hq
  rw [e]
  have hlo:lo.map (Ai τ)=lo.map (Ai σ):=by
   cases lo with
   | none=>rfl
   | some y=>
     rcases Ay h y with e' | e'
     ·simp only [Option.map_some,e'] at hq;rw [At5] at hq;cases hq
     ·simp [e']
  have hhi:hi.map (Ai τ)=hi.map (Ai σ):=by
   cases hi with
   | none=>rfl
   | some y=>
     rcases Ay h y with e' | e'
     ·simp only [Option.map_some,e'] at hq;rw [At2] at hq;cases hq
     ·simp [e']
  rw [hlo,hhi];exact hq
 case mkf d f cs=>
  split at hq
  case h_2=>cases hq
  rename_i hall
  rw [Ou h]
  ·rw [hall];exact hq
  ·intro x hx hxt
   have:=List.all_eq_true.1 hall (Ai σ x) (List.mem_map.2 ⟨x,hx,rfl⟩)
   rw [hxt] at this;simp [nt] at this
 case box d x=>
  rcases Ay h x with e | e
  ·simp [e] at hq
  ·rw [e];exact hq
 case mkm d kd=>exact hq
 case mln d x=>
  rcases Ay h x with e | e
  ·simp [e,mpA] at hq
  ·rw [e]
   obtain ⟨es,h1,h2⟩:=Option.map_eq_some_iff.1 hq
   rw [Ak4 h h1];exact congrArg some h2
 case mlk d x k z ok kd=>
  rcases Ay h x with e | e
  ·simp [e,mpA] at hq
  ·rcases Ay h k with e' | e'
   ·rw [e'] at hq;simp [Da] at hq
   ·rw [e,e']
    split at hq
    case h_2=>cases hq
    rename_i es s h1 h2
    rw [Ak4 h h1];simp only [h2];exact hq
 case bstr d x=>
  rcases Ay h x with e | e
  ·simp [e,slA] at hq
  ·rw [e]
   split at hq
   case h_2=>cases hq
   rename_i m xs h1
   rw [As4 h h1];exact hq
 all_goals cases hq
mutual
theorem Aaj {σ τ:St} (h:Le σ τ):(a:A)→(v:V)→I6 σ a=some v→I6 τ a=some v
 | .val _,_,hv=>hv
 | .ref r p,v,hv=>by
   simp only [I6] at *
   obtain ⟨u,h1,h2⟩:=Option.map_eq_some_iff.1 hv
   rw [Dt h h1];exact congrArg some h2
 | .agg as,v,hv=>by
   simp only [I6] at *
   obtain ⟨u,h1,h2⟩:=Option.map_eq_some_iff.1 hv
   rw [Zx h as u h1];exact congrArg some h2
 | .clo f as,v,hv=>by
   simp only [I6] at *
   obtain ⟨u,h1,h2⟩:=Option.map_eq_some_iff.1 hv
   rw [Zx h as u h1];exact congrArg some h2
 | .top,_,hv=>hv
 | .addr _ _ _,_,hv=>hv
 | .fad _,_,hv=>hv
 | .tie _ _ _ _,_,hv=>hv
theorem Zx {σ τ:St} (h:Le σ τ):(as:List A)→(vs:List V)→Xq σ as=some vs→Xq τ as=some vs
 | [],_,hv=>hv
 | a::r,vs,hv=>by
   simp only [Xq] at *
   split at hv
   ·rename_i u us h1 h2
    rw [Aaj h a u h1,Zx h r us h2];exact hv
   ·cases hv
end
theorem Aef {σ τ:St} (h:Le σ τ) : ∀ {as:List (X×Bool)} {k vs rs},(∀e∈as,e.2=false)→Ch σ (C0 σ as) k=some (vs,[],rs)→Ch τ (C0 τ as) k=some (vs,[],rs):=by
 intro as
 induction as with
 | nil=>intro k vs rs _ ha;exact ha
 | cons e r ih=>
   intro k vs rs hio ha
   obtain ⟨x,io⟩:=e
   have:io=false:=hio (x,io) (by simp)
   subst this
   simp only [C0,List.map_cons,Ch] at ha ⊢
   split at ha
   ·cases ha
   ·rename_i vs' ls' rs' hr
    simp only [Bool.false_eq_true,if_false] at ha ⊢
    cases hres:I6 σ (Ai σ x) with
    | none=>rw [hres] at ha;cases ha
    | some v=>
      rw [hres] at ha
      simp only [Option.some.injEq,Prod.mk.injEq] at ha
      obtain ⟨rfl,rfl,rfl⟩:=ha
      have:=ih (fun e he=>hio e (by simp [he])) (k:=k+1) (vs:=vs') (rs:=rs') hr
      simp only [C0] at this
      rw [this]
      rcases Ay h x with e | e
      ·rw [e] at hres;simp [I6] at hres
      ·rw [e,Aaj h _ _ hres]
end Go.Proofs.YtbnoclklhcbidaaDoor.Ax
namespace Go.Proofs.YtbnoclklhcbidaaDoor.Ax
open Go
def Aop:A→Bool
 | .top=>true
 | _=>false
def Du (hide:List Nat):St→St
 | []=>[]
 | (d,a)::r=>if hide.contains d then Du hide r else (d,a)::Du hide r
def A6 (d:Nat):St→Bool
 | []=>false
 | (k,_)::r=>k==d || A6 d r
def O4 (d:Nat) (acc σ0:St):Bool := !A6 d acc&&Aop (look σ0 d)
def An4:List X→List Nat
 | []=>[]
 | .t s::r=>s::An4 r
 | .c _::r=>An4 r
def Acm:AOp→List Nat
 | .app _ _ (.t s) _=>[s]
 | .bsl _ _ ps=>An4 ps
 | .asg _ (.t s)=>[s]
 | _=>[]
def Kl:List Nat→St→St
 | [],σ=>σ
 | s::r,σ=>Kl r (Au s .top σ)
def yN (σ:St) (m s:Nat):A→Option (List V)
 | .val (.sl _ m' ys)=>if m'=m then some ys else none
 | .val (.nilsl _)=>some []
 | .ref r p=>match Bl σ r p with
   | some (.sl o m' ys)=>if r≠s∧o=true∧m'=m∧Ba (Bo ys)=false then some ys else none
   | _=>none
 | _=>none
def Mg (σ:St):List X→Option (List V×List Nat)
 | []=>some ([],[])
 | .c v::r=>match Mg σ r with
   | some (vs,ks)=>some (v.up::vs,ks)
   | none=>none
 | .t s::r=>match look σ s with
   | .val v=>match Mg σ r with
     | some (vs,ks)=>match v.hasOwn with
       | true=>match ks.contains s with
         | true=>none
         | false=>some (v::vs,s::ks)
       | false=>some (v.up::vs,ks)
     | none=>none
   | _=>none
theorem Ac4 {σ:St} : ∀ {ps:List X} {Us ks},Mg σ ps=some (Us,ks)→(∀x∈ps,Ai σ x ≠ .top) ∧ ∀s∈ks,∃v,look σ s = .val v:=by
 intro ps
 induction ps with
 | nil=>intro Us ks h;simp only [Mg,Option.some.injEq,Prod.mk.injEq] at h;obtain ⟨_,rfl⟩:=h;simp
 | cons x r ih=>
   intro Us ks h
   cases x with
   | c v=>
     simp only [Mg] at h
     split at h
     case h_2=>cases h
     rename_i vs ks' h1
     cases h
     obtain ⟨a,b⟩:=ih h1
     exact ⟨fun y hy=>by
      rcases List.mem_cons.1 hy with rfl | hy
      ·simp [Ai]
      ·exact a y hy,b⟩
   | t s=>
     simp only [Mg] at h
     split at h
     case h_2=>cases h
     rename_i v hv
     split at h
     case h_2=>cases h
     rename_i vs ks' h1
     obtain ⟨a,b⟩:=ih h1
     have ha : ∀y∈X.t s::r,Ai σ y ≠ .top:=fun y hy=>by
      rcases List.mem_cons.1 hy with rfl | hy
      ·simp only [Ai,hv];split<;>simp
      ·exact a y hy
     split at h
     ·split at h
      ·cases h
      ·cases h
       exact ⟨ha,fun k hk=>by
        rcases List.mem_cons.1 hk with rfl | hk
        ·exact ⟨v,hv⟩
        ·exact b k hk⟩
     ·cases h;exact ⟨ha,b⟩
theorem Aif {σ:St} : ∀ {ps:List X} {Us ks} {τ:St},Mg σ ps=some (Us,ks)→(∀s∈ks,look τ s=look σ s)→Kn τ (ps.map (Ai σ))=some (Us,Kl ks τ):=by
 intro ps
 induction ps with
 | nil=>intro Us ks τ h _;simp only [Mg,Option.some.injEq,Prod.mk.injEq] at h;obtain ⟨rfl,rfl⟩:=h;rfl
 | cons x r ih=>
   intro Us ks τ h hk
   cases x with
   | c v=>
     simp only [Mg] at h
     split at h
     case h_2=>cases h
     rename_i vs ks' h1
     cases h
     simp [Kn,Ai,Fy,Fo,ih h1 hk]
   | t s=>
     simp only [Mg] at h
     split at h
     case h_2=>cases h
     rename_i v hv
     split at h
     case h_2=>cases h
     rename_i vs ks' h1
     split at h
     ·rename_i ho
      split at h
      ·cases h
      rename_i hc
      cases h
      have hs:s∉ks':=by simpa using hc
      have hL:look τ s = .val v:=by rw [hk s (by simp),hv]
      have hr:=ih (τ:=Au s .top τ) h1 fun k hk2=>by
       obtain ⟨u,hu⟩:=(Ac4 h1).2 k hk2
       rw [B9,hu]
       simp only [Gy]
       rw [if_neg (by rintro rfl;exact hs hk2),hk k (by simp [hk2]),hu];rfl
      simp only [List.map_cons,Kn,Ai,hv,ho,if_true,Fy,Fo,hL,hr,Kl]
     ·rename_i ho
      cases h
      simp [Kn,Ai,hv,ho,Fy,Fo,ih h1 hk]
def Mu (P:Program) (o:AOp) (σh:St) (cont:Nat→A→List Nat→Prop):Prop:=match o with
 | .call d f as=>as.all (fun e => !e.2)=true∧(match Ch σh (C0 σh as) 0 with
   | some (vs,[],rs) => ∃v,Tri P f vs (fun res _=>res=v∧Dh rs v=true)∧cont d (.val v) []
   | _=>False)
 | .cally d x as _=>(match Ai σh x with
   | .val (.fclo f cs)=>(match Ch σh (C0 σh (as.map (·,false))) 0 with
     | some (vs,[],rs) => ∃v,Tri P f (vs++fzL cs) (fun res _=>res=v∧Dh rs v=true)∧cont d (.val v) []
     | _=>False)
   | _=>False)
 | .app d m (.t s) y=>(match look σh s with
   | .val (.sl o m' xs)=>(match yN σh m s (Ai σh y) with
     | some ys=>(o=true∧m'=m∧Cw (Bo ys)=true∧xs.length+ys.length≤LIM)∧cont d (.val (.sl true m (xs++ys))) [s]
     | none=>False)
   | _=>False)
 | .bsl d m ps=>(match Mg σh ps with
   | some (Us,ks)=>L9 m Us=true∧cont d (.val (.sl true m Us)) ks
   | none=>False)
 | .asg d (.t s)=>(match look σh s with
   | .val v=>(match v.hasOwn with
     | true=>cont d (.val v) [s]
     | false=>cont d (.val v.up) [])
   | _=>False)
 | o=>match qR o σh with
   | some (d,a)=>cont d a []
   | none=>False
theorem Aon {P:Program} {o:Oper} {σ a w O gv N vals fp} {d s:Nat} {x'} {v:V} (h:Ok σ a w O gv N vals fp) (ho:o.op = .move x'∨o.op = .assign x') (hd:o.dst=some d) (hN:d<N)
  (hx:Av N (.t s) x'=true) (hL:look σ s = .val v) (hv:v.hasOwn=true):Bc P o (Au d (.val v) (Au s .top σ)) a w O gv N fp:=by
 have hr:=Aq h hx
 have hrun:(execOp a.eval o).run P w = .ok (.value (a.eval x')) w:=by rcases ho with ho | ho<;>simp [execOp,ho]
 have he:Ai σ (.t s) = .ref s []:=by simp [Ai,hL,hv]
 rw [he] at hr
 have hU:Fo σ (.ref s [])=some (v,Au s .top σ):=by simp [Fo,hL]
 obtain ⟨fp1,fpV,o1,rV,nV,dV,s1⟩:=P9 h (Xv hr rfl).1 hU
 obtain ⟨fp2,o2,s2⟩:=o1.put_own hN rV nV (fun b hb=>(dV b hb).2)
 refine ⟨a.eval x',w,O,_,fp2,.inl hrun,by rw [hd];exact o2,(Mv.refl w O _).shrink fun b hb=> ?_⟩
 rcases s2 b hb with h3 | h3
 ·exact s1 b h3
 exact (dV b h3).1
def W4 (ks:List Nat) (o:AOp) (vis:St):Bool:=ks.all fun s=>A6 s vis&&(Acm o).contains s
def Ld (acc:St) (kl:List Nat):Bool:=acc.all fun e=>e.2.roots.all fun r => !kl.contains r
def Jv (o:AOp) (hide:List Nat):List Nat:=match o with
 | .call _ _ as=>(match Agu as with
   | []=>[]
   | _::_=>(match hide with
     | []=>[]
     | r::_=>[r]))
 | _=>[]
def Kj (o:AOp) (hide:List Nat):List Nat:=match Jv o hide with
 | []=>hide
 | _::_=>hide.tail
def Oh:List (G×List Nat)→List Nat
 | []=>[]
 | (x,hide)::r=>Jv x.o hide++Oh r
def Ff:List (Nat×V×Nat)→St→St
 | [],σ=>σ
 | (r,T,n)::q,σ=>Ff q (Fx r T n σ)
def V4 (hide:List Nat):St→St
 | []=>[]
 | (k,a)::r=>(k,if hide.contains k || a.roots.any (hide.contains ·) then .top else a)::V4 hide r
def Ki (ls hide:List Nat) (cs:List (Nat×V×Nat)) (σ:St):St:=Ff (cs.filter fun c => !(hide.filter (ls.contains ·)).contains c.1) (V4 (hide.filter (ls.contains ·)) σ)
mutual
def Ahs (r n:Nat):A→Bool
 | .ref x p => !(Nat.beq x r) || decide (p.length<n)
 | .addr x p _ => !(Nat.beq x r) || decide (p.length<n)
 | .agg as=>Acz r n as
 | .clo _ as=>Acz r n as
 | .tie _ _ p q=>Acz r n p&&Acz r n q
 | .top=>true
 | .val _=>true
 | .fad _=>true
def Acz (r n:Nat):List A→Bool
 | []=>true
 | a::q=>Ahs r n a&&Acz r n q
end
def Aa6 (acc:St) (cs:List (Nat×V×Nat)):Bool:=acc.all fun e=>cs.all fun c=>Ahs c.1 c.2.2 e.2
def Anc:A→Bool
 | .val _=>true
 | _=>false
def Td (P:Program) (o:AOp) (s:Nat) (σh:St) (cont:Nat→V→Nat×V×Nat→Prop):Prop:=match o with
 | .call d f as=>(match Gn (C0 σh as) with
   | some _=>False
   | none=>(match Ch σh (C0 σh as) 0 with
     | some (vs,[(k,r,p)],rs)=>(r=s∧rs.contains r=false)∧(match look σh r with
       | .val T => ∃v u T',Tri P f vs (fun res outs=>res=v∧outs[k]? = some u)∧(Dh rs v=true∧Dh rs u=true∧u.node=true∧upd p T u=some T')∧cont d v (r,T',p.length+1)
       | _=>False)
     | _=>False))
 | _=>False
def E8 (P:Program) (ls:List Nat) (σ0:St):List (G×List Nat)→St→List (List Nat)→List (List (Nat×V×Nat))→(St→Prop)→Prop
 | [],acc,KS,CS,K=>(Ld acc KS.flatten=true∧Aa6 acc CS.flatten=true)∧K (Du KS.flatten acc++Ff CS.flatten σ0)
 | (x,hide)::r,acc,KS,CS,K=>match x.g with
   | none=>(match Jv x.o hide with
     | []=>Mu P x.o (Du (hide++KS.flatten) acc++Ki ls hide CS.flatten σ0) fun d a ks=>(O4 d acc σ0=true∧W4 ks x.o (Du (hide++KS.flatten) acc)=true)∧E8 P ls σ0 r (acc++[(d,a.mapR (At d 0))]) (KS++[ks]) (CS++[[]]) K
     | s::_=>Td P x.o s (Du (hide++KS.flatten) acc++Ki ls hide.tail CS.flatten σ0) fun d v c=>(O4 d acc σ0=true∧ls.contains s=true∧Anc (look σ0 s)=true)∧E8 P ls σ0 r (acc++[(d,.val v)]) (KS++[[]]) (CS++[[c]]) K)
   | some (s,want)=>(Jv x.o hide=[])∧match look (Du (hide++KS.flatten) acc++Ki ls hide CS.flatten σ0) s with
     | .val (.bool b)=>(b=want→Mu P x.o (Du (hide++KS.flatten) acc++Ki ls hide CS.flatten σ0) fun d a ks=>(O4 d acc σ0=true∧W4 ks x.o (Du (hide++KS.flatten) acc)=true)∧E8 P ls σ0 r (acc++[(d,a.mapR (At d 0))]) (KS++[ks]) (CS++[[]]) K) ∧
       (b=(!want)→match x.o.dst with
        | some d=>O4 d acc σ0=true∧E8 P ls σ0 r (acc++[(d,.val (.tup []))]) (KS++[[]]) (CS++[[]]) K
        | none=>False)
     | .val (.tup [])=>match x.o.dst with
       | some d=>O4 d acc σ0=true∧E8 P ls σ0 r (acc++[(d,.val (.tup []))]) (KS++[[]]) (CS++[[]]) K
       | none=>False
     | _=>False
def Ab3:List Oper→List (List Nat)→List (List Nat)
 | [],acc=>acc
 | o::r,acc=>Ab3 r (acc++[((o.after.toList.filter (Region.binds .any ·)).flatMap fun e=>e.on::acc.getD e.on []).eraseDups])
def Eu (ops:Array Oper):List (List Nat):=Ab3 ops.toList []
def Bd (n m:Nat):Array Bool:=(List.range m).foldl (fun l i=>l.setIfInBounds i true) (Array.replicate n false)
def Mx (ops:Array Oper) (T:List (List Nat)):Nat→List (G×List Nat)→Bool
 | _,[]=>true
 | i,(_,hide)::r=>(List.range i).all (fun j=>(T.getD i []).contains j || (match (ops[j]?).bind (·.dst) with | some d=>hide.contains d | none=>false))&&Mx ops T (i+1) r
def Acy (ops:Array Oper) (T:List (List Nat)) (pre:List (G×List Nat)):Bool:=(List.range pre.length).all fun i=>match pre[i]? with
 | some (e,_)=>(Acm e.o).all fun s=>(List.range i).all fun k=>((List.range k).all fun j=>(ops[j]?).bind (·.dst) != some s) || (match pre[k]? with | some (_,h)=>h.contains s | none=>true) || (T.getD i []).contains k
 | none=>true
def Y1 (T:List (List Nat)) (pre:List (G×List Nat)):Bool:=(List.range pre.length).all fun i=>match pre[i]? with
 | some (e,he)=>(match Jv e.o he with
   | []=>true
   | s::_=>(List.range pre.length).all fun k=>k==i || (T.getD i []).contains k || (T.getD k []).contains i || (match pre[k]? with | some (y,h)=>h.contains s&&(Jv y.o h).isEmpty | none=>true))
 | none=>true
def Auj (ops:Array Oper) (i:Nat):Bool:=match ops[i]? with
 | some o=>(match o.op with | .extract .. => true | _=>false)&&o.guard.isNone&&Region.noSelect ops&&(List.range ops.size).all fun j=>j==i || ((Eu ops).getD i []).contains j || (match ops[j]? with
   | some oj=>oj.after.any (fun e=>Region.binds .any e&&e.on==i) || o.apart ops oj
   | none=>true)
 | none=>false
def Ate (ops:Array Oper) (n:Nat):Bool:=(List.range n).all fun i=>((Eu ops).getD n []).contains i || (Auj ops i&&(match ops[i]? with
 | some o=>o.after.toList.all fun e => !Region.binds .any e || ((Eu ops).getD n []).contains e.on
 | none=>false))
def Adv (P:Program) (N:Nat) (ops:Array Oper) (pre:List (G×List Nat)) (post:List G):Bool:=
 Dd P N ops (pre.map (·.1)++post) ops.toList&&P.follows .mixedOrders&&Mx ops (Eu ops) 0 pre&&Acy ops (Eu ops) pre &&
 ops.toList.zipIdx.all (fun (o,i)=>o.after.toList.all fun e => !Region.binds .any e || decide (e.on<i)) &&
 (decide (pre.length=ops.size) || (decide (pre.length<ops.size)&&Ate ops pre.length&&Region.chainB .any ops pre.length)) &&
 Region.seqB .any ops (ops.size-pre.length) pre.length (Bd ops.size pre.length)&&Y1 (Eu ops) pre
def Axr:G×List Nat→Bool
 | (⟨none,.mov _ _⟩,_)=>true
 | _=>false
def Awc (ops:Array Oper) (i:Nat):Bool:=match ops[i]? with
 | some o=>(match o.op with | .move _=>true | _=>false)&&o.guard.isNone&&(List.range ops.size).all fun j=>decide (j≤i) || (match ops[j]? with
   | some oj=>oj.after.any (fun e=>Region.binds .any e&&e.on==i) || o.apart ops oj
   | none=>true)
 | none=>false
def Amy (P:Program) (N:Nat) (ops:Array Oper) (n0:Nat) (pre:List (G×List Nat)) (post:List G):Bool:=
 Adv P N ops pre post&&decide (n0≤pre.length)&&Region.noSelect ops&&(pre.take n0).all Axr&&(List.range n0).all (Awc ops)
def Rb (n0:Nat):St:=(List.range n0).map fun i=>(1000000+i,A.top)
def Yl (n0:Nat) (σ:St):Bool:=(List.range n0).all fun i=>Aop (look σ (1000000+i))
def Ai1 (P:Program) (ops:Array Oper) (gv:Nat→Value) (N:Nat) (Q:Exit→Act→World→Prop) (i:Nat) (σh:St) (d:Nat) (r:A) (ks:List Nat) (cs:List (Nat×V×Nat)):Prop:=
 ∀τ a w O vals fp (next:Act→World→Prop),Le σh τ→Ok τ a w O gv N vals fp →
   (∀a' w' O' vals' fp',Ok (Au d r (Kl ks (Ff cs τ))) a' w' O' gv N vals' fp'→Mv w O (Sof fp) w' O' (Sof fp')→next a' w')→wpOp P ops Q i next a w
theorem Ok.congr {σ τ a w O gv N vals fp} (h:Ok σ a w O gv N vals fp) (e:look σ=look τ):Ok τ a w O gv N vals fp:=⟨by rw [←e];exact h.sim,h.lo,h.hi,h.sz,h.df⟩
theorem Ox {σ τ:St} {w O gv N} {fp:Nat→List Nat} {next:Act→World→Prop} (e:σ=τ)
  (h : ∀a' w' O' vals' fp',Ok τ a' w' O' gv N vals' fp'→Mv w O (Sof fp) w' O' (Sof fp')→next a' w'):Hn w O gv N fp (fun s=>s=σ) next:=by
 intro σ' a' w' O' vals' fp' hk ho hm
 subst hk;subst e
 exact h a' w' O' vals' fp' ho hm
theorem Wn {σ:St} : ∀(cs:List V) (k:Nat),Ch σ (cs.map fun c=>(A.val c,false)) k=some (fzL cs,[],[]):=by
 intro cs
 induction cs with
 | nil=>intro k;rfl
 | cons c r ih=>intro k;simp [Ch,ih,I6,fzL,A.roots]
theorem Q2 {σ:St} {bs:List (A×Bool)} {us:List V} (hb : ∀k,Ch σ bs k=some (us,[],[])) : ∀ {as:List (A×Bool)} {k:Nat} {vs ls rs},Ch σ as k=some (vs,ls,rs) →
  Ch σ (as++bs) k=some (vs++us,ls,rs):=by
 intro as
 induction as with
 | nil=>intro k vs ls rs h;simp [Ch] at h;obtain ⟨rfl,rfl,rfl⟩:=h;exact hb k
 | cons e rest ih=>
   intro k vs ls rs h
   obtain ⟨a,io⟩:=e
   simp only [Ch] at h
   split at h
   ·cases h
   ·rename_i vs' ls' rs' h1
    simp only [List.cons_append,Ch,ih h1]
    split at h
    ·rename_i r p u h2
     cases h
     rfl
    ·rename_i h2
     split at h
     ·rename_i v h3
      cases h
      rfl
     ·cases h
theorem Wm {σ:St} {xs:List X} {cs:List V}:Gn (C0 σ (xs.map (·,false))++cs.map fun c=>(A.val c,false))=none:=by
 refine Xb fun e he=> ?_
 rcases List.mem_append.1 he with h | h
 ·obtain ⟨y,hy,rfl⟩:=List.mem_map.1 h
  obtain ⟨z,hz,rfl⟩:=List.mem_map.1 hy
  rfl
 obtain ⟨y,hy,rfl⟩:=List.mem_map.1 h
 rfl
theorem Amf {P:Program} {ops:Array Oper} {gv N Q} {i:Nat} {o:Oper} {x:G} {σh:St} {cont:Nat→A→List Nat→Prop} (hi:ops[i]? = some o) (hf:Rl P N o x.o=true)
  (h:Mu P x.o σh cont) (hw : ∀τ a w O vals fp,Le σh τ→Ok τ a w O gv N vals fp→Region.wanted o (yielded ops a.tmps)=true) :
  ∃d r ks,cont d r ks∧Ai1 P ops gv N Q i σh d r ks []∧o.dst=some d:=by
 by_cases hc : ∃d f as,x.o = .call d f as
 ·obtain ⟨d,f,as,e⟩:=hc
  rw [e] at h hf
  simp only [Mu] at h
  obtain ⟨hio,h⟩:=h
  split at h
  case h_2=>exact h.elim
  rename_i vs rs hargs
  obtain ⟨v,htri,hcont⟩:=h
  have hd:o.dst=some d:=by
   simp only [Rl,Bool.and_eq_true,beq_iff_eq] at hf;exact hf.1.1
  refine ⟨d,.val v,[],hcont,?_,hd⟩
  intro τ a w O vals fp next hle ho hn
  unfold wpOp
  rw [hi]
  simp only [hw τ a w O vals fp hle ho,if_true]
  left
  refine Yb (K:=fun s=>s=Au d (.val v) τ) hf ho ?_ (Ox rfl hn)
  simp only [P3,F0]
  rw [Af5 hio]
  simp only
  rw [Aef hle (by simpa using hio) hargs]
  refine ⟨rfl,htri.mono ?_⟩
  rintro r o' ⟨rfl,hok⟩
  exact ⟨hok,rfl⟩
 by_cases hcy : ∃d z as ms,x.o = .cally d z as ms
 ·obtain ⟨d,z,as,ms,e⟩:=hcy
  rw [e] at h hf
  simp only [Mu] at h
  split at h
  case h_2=>exact h.elim
  rename_i f cs hx
  split at h
  case h_2=>exact h.elim
  rename_i vs rs hargs
  obtain ⟨v,htri,hcont⟩:=h
  have hd:o.dst=some d:=by
   simp only [Rl,Bool.and_eq_true,beq_iff_eq] at hf;exact hf.1.1
  refine ⟨d,.val v,[],hcont,?_,hd⟩
  intro τ a w O vals fp next hle ho hn
  unfold wpOp
  rw [hi]
  simp only [hw τ a w O vals fp hle ho,if_true]
  left
  refine Yb (K:=fun s=>s=Au d (.val v) τ) hf ho ?_ (Ox rfl hn)
  have hx':Ai τ z = .val (.fclo f cs):=by
   rcases Ay hle z with h1 | h1
   ·rw [h1] at hx;cases hx
   ·rw [h1];exact hx
  simp only [P3,hx',Agb,Rn,F0]
  rw [Wm]
  simp only
  rw [Q2 (fun k=>Wn _ k) (Aef hle (by simp) hargs),Tz]
  refine ⟨rfl,htri.mono ?_⟩
  rintro r o' ⟨rfl,hok⟩
  exact ⟨hok,rfl⟩
 by_cases hap : ∃d m s y,x.o = .app d m (.t s) y
 ·obtain ⟨d,m,s,y,e⟩:=hap
  rw [e] at h hf
  simp only [Mu] at h
  split at h
  case h_2=>exact h.elim
  rename_i o' m' xs hL
  split at h
  case h_2=>exact h.elim
  rename_i ys hy
  obtain ⟨⟨rfl,rfl,h3,h4⟩,hcont⟩:=h
  have hfo:A9 P N o (.app d m' (.t s) y)=true:=hf
  have hd:o.dst=some d:=by
   simp only [A9,Bool.and_eq_true,beq_iff_eq] at hfo;exact hfo.1.1
  refine ⟨d,_,[s],hcont,?_,hd⟩
  intro τ a w O vals fp next hle ho hn
  unfold wpOp
  rw [hi]
  simp only [hw τ a w O vals fp hle ho,if_true]
  left
  have hLt:look τ s = .val (.sl true m' xs):=by
   rcases hle s with h1 | h1
   ·rw [h1] at hL;cases hL
   ·rw [h1,hL]
  have hyt:yS τ m' (Ai τ y)=some (ys,τ):=by
   have hne:Ai σh y ≠ .top:=fun ht=>by rw [ht] at hy;simp [yN] at hy
   rw [(Ay hle y).resolve_left hne]
   cases he:Ai σh y with
   | val v=>
     rw [he] at hy
     cases v with
     | sl _ m2 zs=>
       simp only [yN] at hy
       split at hy
       ·rename_i hm;cases hy;simp [yS,hm]
       ·cases hy
     | nilsl=>simp only [yN,Option.some.injEq] at hy;subst hy;simp [yS]
     | _=>simp [yN] at hy
   | ref r p=>
     rw [he] at hy
     simp only [yN] at hy
     split at hy
     case h_2=>cases hy
     rename_i o2 m2 zs hnode
     split at hy
     case isFalse=>cases hy
     rename_i hc
     cases hy
     obtain ⟨_,rfl,rfl,hown⟩:=hc
     simp [yS,Dt hle hnode,hown]
   | _=>rw [he] at hy;simp [yN] at hy
  have hstep:Bt (.app d m' (.t s) y) τ=some (Au d (.val (.sl true m' (xs++ys))) (Au s .top τ)):=by
   have hev:Ai τ (.t s) = .ref s []:=by simp [Ai,hLt,V.hasOwn]
   simp [Bt,Apq,hyt,hev,Fy,Fo,hLt,h3,h4]
  exact M9 (K:=fun z=>z=Au d (.val (.sl true m' (xs++ys))) (Au s .top τ)) (K2 hfo ho hstep) rfl (Ox rfl hn)
 by_cases hbs : ∃d m ps,x.o = .bsl d m ps
 ·obtain ⟨d,m,ps,e⟩:=hbs
  rw [e] at h hf
  simp only [Mu] at h
  split at h
  case h_2=>exact h.elim
  rename_i Us ks ht
  obtain ⟨hal,hcont⟩:=h
  have hfo:A9 P N o (.bsl d m ps)=true:=hf
  have hd:o.dst=some d:=by
   simp only [A9,Bool.and_eq_true,beq_iff_eq] at hfo;exact hfo.1.1
  refine ⟨d,_,ks,hcont,?_,hd⟩
  intro τ a w O vals fp next hle ho hn
  unfold wpOp
  rw [hi]
  simp only [hw τ a w O vals fp hle ho,if_true]
  left
  have hv:=Ac4 ht
  have hstep:Bt (.bsl d m ps) τ=some (Au d (.val (.sl true m Us)) (Kl ks τ)):=by
   have h1:=Aif (τ:=τ) ht fun s hs=>by
    obtain ⟨v,hvs⟩:=hv.2 s hs
    rcases hle s with h1 | h1
    ·rw [h1] at hvs;cases hvs
    ·exact h1
   rw [←Ou hle hv.1] at h1
   simp [Bt,Ajt,h1,hal]
  exact M9 (K:=fun z=>z=Au d (.val (.sl true m Us)) (Kl ks τ)) (K2 hfo ho hstep) rfl (Ox rfl hn)
 by_cases has : ∃d s,x.o = .asg d (.t s)
 ·obtain ⟨d,s,e⟩:=has
  rw [e] at h hf
  simp only [Mu] at h
  split at h
  case h_2=>exact h.elim
  rename_i v hL
  have hfo:A9 P N o (.asg d (.t s))=true:=hf
  have hfo2:=hfo
  simp only [A9,Bool.and_eq_true,beq_iff_eq,decide_eq_true_eq] at hfo2
  obtain ⟨⟨hd,hN⟩,hfx⟩:=hfo2
  have hLt : ∀ {τ},Le σh τ→look τ s = .val v:=fun {τ} hle=>by
   rcases hle s with h1 | h1
   ·rw [h1] at hL;cases hL
   ·rw [h1,hL]
  split at h
  ·rename_i hv
   refine ⟨d,_,[s],h,?_,hd⟩
   intro τ a w O vals fp next hle ho hn
   unfold wpOp
   rw [hi]
   simp only [hw τ a w O vals fp hle ho,if_true]
   left
   have hst:Bc P o (Au d (.val v) (Au s .top τ)) a w O gv N fp:=by
    split at hfx
    ·exact Aon ho (.inl (by assumption)) hd hN hfx (hLt hle) hv
    ·exact Aon ho (.inr (by assumption)) hd hN hfx (hLt hle) hv
    ·cases hfx
   exact M9 (K:=fun z=>z=Au d (.val v) (Au s .top τ)) hst rfl (Ox rfl hn)
  rename_i hv
  refine ⟨d,_,[],h,?_,hd⟩
  intro τ a w O vals fp next hle ho hn
  unfold wpOp
  rw [hi]
  simp only [hw τ a w O vals fp hle ho,if_true]
  left
  have hstep:Bt (.asg d (.t s)) τ=some (Au d (.val v.up) τ):=by simp [Bt,Alg,Ai,hLt hle,hv,upA]
  exact M9 (K:=fun z=>z=Au d (.val v.up) τ) (K2 hfo ho hstep) rfl (Ox rfl hn)
 generalize x.o=y at *
 have hno : ∀d f as,y ≠ .call d f as:=fun d f as e=>hc ⟨d,f,as,e⟩
 have hny : ∀d z as ms,y ≠ .cally d z as ms:=fun d z as ms e=>hcy ⟨d,z,as,ms,e⟩
 have hna : ∀d m s z,y ≠ .app d m (.t s) z:=fun d m s z e=>hap ⟨d,m,s,z,e⟩
 have hnb : ∀d m ps,y ≠ .bsl d m ps:=fun d m ps e=>hbs ⟨d,m,ps,e⟩
 have hng : ∀d s,y ≠ .asg d (.t s):=fun d s e=>has ⟨d,s,e⟩
 have hq : ∃d r,qR y σh=some (d,r)∧cont d r []:=by
  have h':match qR y σh with | some (d,a)=>cont d a [] | none=>False:=by
   cases y with
   | app d m x2 z=>cases x2 with
     | t s=>exact absurd rfl (hna _ _ _ _)
     | c v=>exact h
   | asg d x2=>cases x2 with
     | t s=>exact absurd rfl (hng _ _)
     | c v=>exact h
   | _=>first | exact h | exact absurd rfl (hno _ _ _) | exact absurd rfl (hnb _ _ _) | exact absurd rfl (hny _ _ _ _)
  split at h'
  ·rename_i d r hqr;exact ⟨d,r,hqr,h'⟩
  ·exact h'.elim
 obtain ⟨d,r,hqr,hcont⟩:=hq
 have hst:=Aii hqr
 have hno2:=hny
 have hfo:A9 P N o y=true:=by
  cases y<;>first | exact hf | exact absurd rfl (hno _ _ _) | exact absurd rfl (hno2 _ _ _ _)
 have hd:o.dst=some d:=by
  have hds:=hst.2
  cases y<;>simp only [AOp.dst,Option.some.injEq,reduceCtorEq] at hds <;>
   (subst hds;simp only [A9,Bool.and_eq_true,beq_iff_eq] at hfo;first | exact hfo.1.1 | exact hfo.1.1.1 | (simp at hfo))
 refine ⟨d,r,[],hcont,?_,hd⟩
 intro τ a w O vals fp next hle ho hn
 unfold wpOp
 rw [hi]
 simp only [hw τ a w O vals fp hle ho,if_true]
 left
 exact M9 (K:=fun s=>s=Au d r τ) (K2 hfo ho (Aii (Avb hle hqr)).1) rfl (Ox rfl hn)
theorem Aqz {σ:St} : ∀ {as:List (A×Bool)} {k z},Ch σ as k=some z → ∀e∈as,e.1 ≠ .top:=by
 intro as
 induction as with
 | nil=>intro k z _ e he;cases he
 | cons x r ih=>
   intro k z h e he
   obtain ⟨a,io⟩:=x
   simp only [Ch] at h
   split at h
   ·cases h
   ·rename_i vs ls rs hr
    rcases List.mem_cons.1 he with rfl | he
    ·rintro rfl
     have:(if io=true then Kg σ .top else none)=none:=by split<;>rfl
     rw [this] at h
     simp [I6] at h
    ·exact ih hr e he
theorem Akg {σ τ:St} (h:Le σ τ) : ∀ {as:List (A×Bool)} {k z},Ch σ as k=some z→Ch τ as k=some z:=by
 intro as
 induction as with
 | nil=>intro k z hz;exact hz
 | cons x r ih=>
   intro k z hz
   obtain ⟨a,io⟩:=x
   simp only [Ch] at hz ⊢
   split at hz
   ·cases hz
   ·rename_i vs ls rs hr
    rw [ih hr]
    simp only
    cases hl:(if io=true then Kg σ a else none) with
    | some q=>
      rw [hl] at hz
      have hio:io=true:=by cases io<;>simp at hl ⊢
      subst hio
      simp only [if_true] at hl ⊢
      have:Kg τ a=some q:=by
       cases a with
       | ref r' p=>
         simp only [Kg] at hl ⊢
         cases hn:Bl σ r' p with
         | none=>rw [hn] at hl;cases hl
         | some u=>rw [hn] at hl;rw [Dt h hn];exact hl
       | _=>simp [Kg] at hl
      rw [this];exact hz
    | none=>
      rw [hl] at hz
      cases hres:I6 σ a with
      | none=>rw [hres] at hz;cases hz
      | some v=>
        rw [hres] at hz
        have:(if io=true then Kg τ a else none)=none:=by
         split
         ·rename_i hio
          rw [if_pos hio] at hl
          cases a with
          | ref r' p=>
            simp only [Kg] at hl ⊢
            cases hn:Bl σ r' p with
            | none=>simp [I6,hn] at hres
            | some u=>rw [hn] at hl;rw [Dt h hn];exact hl
          | _=>rfl
         ·rfl
        rw [this,Aaj h _ _ hres];exact hz
theorem Ako {σ τ:St} (h:Le σ τ) : ∀ {as:List (X×Bool)},(∀e∈C0 σ as,e.1 ≠ .top)→C0 τ as=C0 σ as:=by
 intro as
 induction as with
 | nil=>intro _;rfl
 | cons x r ih=>
   intro hn
   simp only [C0,List.map_cons] at hn ⊢
   have h1:=ih (fun e he=>hn e (by simp only [C0] at he;exact List.mem_cons_of_mem _ he))
   simp only [C0] at h1
   rw [h1]
   rcases Ay h x.1 with e | e
   ·exact absurd e (hn (Ai σ x.1,x.2) (by simp))
   ·rw [e]
theorem Auv {P:Program} {ops:Array Oper} {gv N Q} {i:Nat} {o:Oper} {x:G} {s:Nat} {σh:St} {cont:Nat→V→Nat×V×Nat→Prop} (hi:ops[i]? = some o) (hf:Rl P N o x.o=true) (hg:o.guard=none)
  (h:Td P x.o s σh cont) : ∃d v c,cont d v c∧Ai1 P ops gv N Q i σh d (.val v) [] [c]∧o.dst=some d∧c.1=s:=by
 unfold Td at h
 split at h
 case h_2=>exact h.elim
 rename_i d f as ho'
 rw [ho'] at hf
 split at h
 ·exact h.elim
 rename_i hgv
 split at h
 case h_2=>exact h.elim
 rename_i vs k r p rs hargs
 obtain ⟨⟨hrs,hroot⟩,h⟩:=h
 split at h
 case h_2=>exact h.elim
 rename_i T hT
 obtain ⟨v,u,T',htri,⟨h1,h2,h3,h4⟩,hcont⟩:=h
 have hd:o.dst=some d:=by
  simp only [Rl,Bool.and_eq_true,beq_iff_eq] at hf;exact hf.1.1
 refine ⟨d,v,_,hcont,?_,hd,hrs⟩
 intro τ a w O vals fp next hle ho hn
 unfold wpOp
 rw [hi]
 have hw:Region.wanted o (yielded ops a.tmps)=true:=by simp [Region.wanted,hg]
 simp only [hw,if_true]
 left
 refine Yb (K:=fun z=>z=Au d (.val v) (Fx r T' (p.length+1) τ)) hf ho ?_ (Ox rfl hn)
 simp only [P3,F0]
 rw [Ako hle (Aqz hargs),hgv]
 simp only
 rw [Akg hle hargs]
 refine ⟨by simp only [Gt,hroot];rfl,htri.mono ?_⟩
 rintro res outs ⟨rfl,hout⟩
 have hTt:look τ r = .val T:=by
  rcases hle r with e | e
  ·rw [e] at hT;cases hT
  ·rw [e,hT]
 simp only [D2,hout,hTt,h4,Qe h3]
 exact ⟨h1,h2,trivial⟩
mutual
theorem Aaf (d:Nat):(b:A)→(b.mapR (At d 0)).mapR (At d 0)=b.mapR (At d 0)
 | .top=>rfl
 | .val _=>rfl
 | .ref r p=>by
   simp only [A.mapR,At,Nat.zero_le,and_true]
   by_cases h:r=d
   ·simp [h,A.mapR]
   ·simp [h,A.mapR,At]
 | .addr r p c=>by
   simp only [A.mapR,At,Nat.zero_le,and_true]
   by_cases h:r=d
   ·simp [h,A.mapR]
   ·simp [h,A.mapR,At]
 | .fad _=>rfl
 | .agg as=>by simp only [A.mapR];rw [Nt d as]
 | .clo f as=>by simp only [A.mapR];rw [Nt d as]
 | .tie b f p q=>by simp only [A.mapR];rw [Nt d p,Nt d q]
theorem Nt (d:Nat):(bs:List A)→Bw (At d 0) (Bw (At d 0) bs)=Bw (At d 0) bs
 | []=>rfl
 | b::r=>by simp only [Bw];rw [Aaf d b,Nt d r]
end
theorem E2 (A B:St) (s:Nat):look (A++B) s=if A6 s A then look A s else look B s:=by
 induction A with
 | nil=>simp [A6]
 | cons e r ih=>
   obtain ⟨k,a⟩:=e
   simp only [List.cons_append,look,A6]
   by_cases h:k=s
   ·subst h;simp
   ·rw [if_neg h,if_neg h,ih];simp [h]
theorem Uc (hide:List Nat) (A:St) (s:Nat):A6 s (Du hide A)=(A6 s A && !hide.contains s):=by
 induction A with
 | nil=>simp [Du,A6]
 | cons e r ih=>
   obtain ⟨k,a⟩:=e
   simp only [Du]
   by_cases hk:hide.contains k=true
   ·rw [if_pos hk,ih]
    simp only [A6]
    by_cases h:k=s
    ·subst h;rw [hk];simp
    ·rw [show (k==s)=false by simp [h],Bool.false_or]
   ·rw [if_neg hk]
    simp only [A6,ih]
    have hk':hide.contains k=false:=by simpa using hk
    by_cases h:k=s
    ·subst h;rw [hk'];simp
    ·rw [show (k==s)=false by simp [h],Bool.false_or,Bool.false_or]
theorem Wr (hide:List Nat) (A:St) (s:Nat) (hs:hide.contains s=false):look (Du hide A) s=look A s:=by
 induction A with
 | nil=>rfl
 | cons e r ih=>
   obtain ⟨k,a⟩:=e
   simp only [Du]
   split
   ·rename_i hk
    simp only [look]
    rw [if_neg (by rintro rfl;rw [hk] at hs;cases hs),ih]
   ·simp only [look,ih]
def kn:St→Bool
 | []=>true
 | (d,_)::r => !A6 d r&&kn r
theorem M6 {H:St} {i s:Nat} {r:A} (h:H[i]? = some (s,r)):A6 s H=true:=by
 induction H generalizing i with
 | nil=>simp at h
 | cons e q ih=>
   obtain ⟨k,a⟩:=e
   cases i with
   | zero=>simp at h;simp [A6,h.1]
   | succ i=>simp at h;simp [A6,ih h]
theorem G9 {H:List (Nat×A)} {s:Nat} (h:A6 s H=true) : ∃(i:Nat) (r:A),H[i]? = some (s,r):=by
 induction H with
 | nil=>simp [A6] at h
 | cons e q ih=>
   obtain ⟨k,a⟩:=e
   simp only [A6,Bool.or_eq_true,beq_iff_eq] at h
   rcases h with rfl | h
   ·exact ⟨0,a,by simp⟩
   ·obtain ⟨i,r,hi⟩:=ih h;exact ⟨i+1,r,by simpa using hi⟩
theorem Ao8 {H:St} (hk:kn H=true) {i s:Nat} {r:A} (h:H[i]? = some (s,r)):look H s=r:=by
 induction H generalizing i with
 | nil=>simp at h
 | cons e q ih=>
   obtain ⟨k,a⟩:=e
   simp only [kn,Bool.and_eq_true,Bool.not_eq_true'] at hk
   cases i with
   | zero=>simp at h;obtain ⟨rfl,rfl⟩:=h;simp [look]
   | succ i=>
     simp at h
     have:=M6 h
     simp only [look]
     rw [if_neg (by rintro rfl;rw [this] at hk;simp at hk)]
     exact ih hk.2 h
theorem Axk {H:St} (hk:kn H=true) {i j s:Nat} {r q:A} (h:H[i]? = some (s,r)) (h':H[j]? = some (s,q)):i=j:=by
 induction H generalizing i j with
 | nil=>simp at h
 | cons e t ih=>
   obtain ⟨k,a⟩:=e
   simp only [kn,Bool.and_eq_true,Bool.not_eq_true'] at hk
   cases i with
   | zero=>
     cases j with
     | zero=>rfl
     | succ j=>simp at h h';obtain ⟨rfl,_⟩:=h;have:=M6 h';rw [this] at hk;simp at hk
   | succ i=>
     cases j with
     | zero=>simp at h h';obtain ⟨rfl,_⟩:=h';have:=M6 h;rw [this] at hk;simp at hk
     | succ j=>simp at h h';rw [ih hk.2 h h']
theorem Apk {H:St} {d:Nat} {a:A} (hk:kn H=true) (hd:A6 d H=false):kn (H++[(d,a)])=true:=by
 induction H with
 | nil=>rfl
 | cons e r ih=>
   obtain ⟨k,b⟩:=e
   simp only [kn,Bool.and_eq_true,Bool.not_eq_true'] at hk
   simp only [A6,Bool.or_eq_false_iff,beq_eq_false_iff_ne] at hd
   have hkey : ∀A:St,A6 k (A++[(d,a)])=(A6 k A || d==k):=by
    intro A
    induction A with
    | nil=>simp [A6]
    | cons e r ih=>obtain ⟨j,c⟩:=e;simp [A6,ih,Bool.or_assoc]
   simp only [List.cons_append,kn,Bool.and_eq_true,Bool.not_eq_true']
   refine ⟨?_,ih hk.2 hd.2⟩
   rw [hkey,hk.1];simp;exact fun e=>hd.1 e.symm
def over (S:Nat→Bool):Nat→St→St
 | _,[]=>[]
 | k,e::r=>if S k then e::over S (k+1) r else over S (k+1) r
theorem Ah8 {S:Nat→Bool} {s:Nat} : ∀ {H:St} {k},A6 s H=false→A6 s (over S k H)=false:=by
 intro H
 induction H with
 | nil=>intro k _;rfl
 | cons e r ih=>
   intro k h
   obtain ⟨d,a⟩:=e
   simp only [A6,Bool.or_eq_false_iff] at h
   simp only [over]
   split
   ·simp [A6,h.1,ih h.2]
   ·exact ih h.2
theorem Aoc {S:Nat→Bool} : ∀ {H:St} {k i s:Nat} {r:A},kn H=true→H[i]? = some (s,r)→A6 s (over S k H)=S (k+i)∧(S (k+i)=true→look (over S k H) s=r):=by
 intro H
 induction H with
 | nil=>intro k i s r _ h;simp at h
 | cons e q ih=>
   intro k i s r hk h
   obtain ⟨d,a⟩:=e
   simp only [kn,Bool.and_eq_true,Bool.not_eq_true'] at hk
   cases i with
   | zero=>
     simp at h;obtain ⟨rfl,rfl⟩:=h
     simp only [over,Nat.add_zero]
     split
     ·rename_i hS;simp [A6,look,hS]
     ·rename_i hS
      have hS':S k=false:=by simpa using hS
      rw [Ah8 hk.1,hS'];simp
   | succ i=>
     simp at h
     have hne:d≠s:=by rintro rfl;have:=M6 h;rw [this] at hk;simp at hk
     obtain ⟨h1,h2⟩:=ih (k:=k+1) hk.2 h
     rw [show k+1+i=k+(i+1) by omega] at h1 h2
     simp only [over]
     split
     ·simp only [A6,look,if_neg hne]
      exact ⟨by simp [hne,h1],h2⟩
     ·exact ⟨h1,h2⟩
structure Heads (n0:Nat) (P:Program) (ops:Array Oper) (gv:Nat→Value) (N:Nat) (Q:Exit→Act→World→Prop) (ls:List Nat) (σ0:St) (pre:List (G×List Nat)) (H:St) (KS:List (List Nat)) (CS:List (List (Nat×V×Nat))):Prop where
 len:H.length≤pre.length
 klen:KS.length=H.length
 clen:CS.length=H.length
 cks : ∀(i:Nat) (ks:List Nat) (cs:List (Nat×V×Nat)),KS[i]? = some ks→CS[i]? = some cs→cs=[]∨ks=[]
 cval : ∀c∈CS.flatten,∃U,look σ0 c.1 = .val U
 cin : ∀(i:Nat) (cs:List (Nat×V×Nat)) (c:Nat×V×Nat) (x:G) (hide:List Nat),CS[i]? = some cs→c∈cs→pre[i]? = some (x,hide)→ls.contains c.1=true ∧ ∃q,Jv x.o hide=c.1::q
 dumc : ∀(j:Nat) (cs:List (Nat×V×Nat)),j<n0→CS[j]? = some cs→cs=[]
 kn:kn H=true
 top : ∀e∈H,look σ0 e.1 = .top
 idem : ∀e∈H,e.2.mapR (At e.1 0)=e.2
 dum : ∀(i d:Nat) (r:A),i<n0→(H:List (Nat×A))[i]? = some (d,r)→r = .top
 dst : ∀(i d:Nat) (r:A),n0≤i→(H:List (Nat×A))[i]? = some (d,r)→(ops[i]?).bind (fun o:Oper=>o.dst)=some d
 kin : ∀(i:Nat) (ks:List Nat) (x:G) (hide:List Nat),KS[i]? = some ks→pre[i]? = some (x,hide)→W4 ks x.o (Du (hide++(KS.take i).flatten) (H.take i))=true
 ok : ∀(i d:Nat) (r:A) (ks:List Nat) (cs:List (Nat×V×Nat)) (x:G) (hide:List Nat),n0≤i→(H:List (Nat×A))[i]? = some (d,r)→KS[i]? = some ks→CS[i]? = some cs→pre[i]? = some (x,hide)→Ai1 P ops gv N Q i (Du (hide++(KS.take i).flatten) (H.take i)++Ki ls (Kj x.o hide) (CS.take i).flatten σ0) d r ks cs
theorem Aq5 {n0:Nat} {P:Program} {ops:Array Oper} {gv N Q} {ls:List Nat} {σ0:St} {all:List (G×List Nat)} {os:List Oper} (hfit:Dd P N ops (all.map (·.1)) os=true) (hos : ∀j,j<os.length→os[j]? = ops[j]?) : ∀(pre:List (G×List Nat)) (acc:St) (KS:List (List Nat)) (CS:List (List (Nat×V×Nat))) (K:St→Prop),
  E8 P ls σ0 pre acc KS CS K→acc.length+pre.length=all.length→(∀j,pre[j]? = all[acc.length+j]?)→n0≤acc.length→Heads n0 P ops gv N Q ls σ0 all acc KS CS →
  ∃H KS CS,Heads n0 P ops gv N Q ls σ0 all H KS CS∧H.length=all.length∧(Ld H KS.flatten=true∧Aa6 H CS.flatten=true)∧K (Du KS.flatten H++Ff CS.flatten σ0):=by
 intro pre
 induction pre with
 | nil=>intro acc KS CS K h hl _ _ hh;exact ⟨acc,KS,CS,hh,by simpa using hl,h.1,h.2⟩
 | cons p r ih=>
   intro acc KS CS K h hl hpre hn0 hh
   obtain ⟨x,hide⟩:=p
   have hx:all[acc.length]? = some (x,hide):=by simpa using (hpre 0).symm
   have hlen:acc.length<all.length:=(List.getElem?_eq_some_iff.1 hx).1
   have getfit : ∀ {gs:List G} {os:List Oper} {i:Nat} {g:G},Dd P N ops gs os=true→gs[i]? = some g → ∃o,os[i]? = some o∧Aeg P N ops g o=true:=by
    intro gs
    induction gs with
    | nil=>intro os i g _ hi;simp at hi
    | cons g' gs ih'=>
      intro os i g hf hi
      cases os with
      | nil=>simp [Dd] at hf
      | cons o os=>
        simp only [Dd,Bool.and_eq_true] at hf
        cases i with
        | zero=>simp at hi;subst hi;exact ⟨o,by simp,hf.1⟩
        | succ i=>simp at hi;obtain ⟨o',h1,h2⟩:=ih' hf.2 hi;exact ⟨o',by simpa using h1,h2⟩
   obtain ⟨o,ho,hfg⟩:=getfit (i:=acc.length) (g:=x) hfit (by rw [List.getElem?_map,hx];rfl)
   have hoi:ops[acc.length]? = some o:=by rw [←hos _ (List.getElem?_eq_some_iff.1 ho).1];exact ho
   simp only [Aeg,Bool.and_eq_true,beq_iff_eq] at hfg
   obtain ⟨⟨⟨hfo,hdst⟩,hdN⟩,hg⟩:=hfg
   have hkl:=hh.klen
   have hcl:=hh.clen
   have more : ∀d a' ks cs,O4 d acc σ0=true→W4 ks x.o (Du (hide++KS.flatten) acc)=true→(cs=[]∨ks=[])→(∀c∈cs,(∃U,look σ0 c.1 = .val U)∧ls.contains c.1=true ∧ ∃q,Jv x.o hide=c.1::q)→o.dst=some d →
     Ai1 P ops gv N Q acc.length (Du (hide++KS.flatten) acc++Ki ls (Kj x.o hide) CS.flatten σ0) d a' ks cs→E8 P ls σ0 r (acc++[(d,a'.mapR (At d 0))]) (KS++[ks]) (CS++[cs]) K →
     ∃H KS CS,Heads n0 P ops gv N Q ls σ0 all H KS CS∧H.length=all.length∧(Ld H KS.flatten=true∧Aa6 H CS.flatten=true)∧K (Du KS.flatten H++Ff CS.flatten σ0):=by
    intro d a' ks cs hfr hkill hck hcs hod hok hrest
    simp only [O4,Bool.and_eq_true,Bool.not_eq_true'] at hfr
    have htop:look σ0 d = .top:=by
     have:=hfr.2;unfold Aop at this;split at this
     ·assumption
     ·cases this
    refine ih (acc++[(d,a'.mapR (At d 0))]) (KS++[ks]) (CS++[cs]) K hrest (by simp at hl ⊢;omega) (fun j=>by
     have:=hpre (j+1)
     simp at this ⊢
     rw [this];congr 1;omega) (by simp;omega) ⟨by simp;omega,by simp [hkl],by simp [hcl],?_,?_,?_,(fun j cs' hj hcj=>by rw [List.getElem?_append_left (by omega)] at hcj;exact hh.dumc j cs' hj hcj),Apk hh.kn hfr.1,?_,?_,?_,?_,?_,?_⟩
    ·intro i ks' cs' hi hi'
     rcases Nat.lt_or_ge i acc.length with hlt | hge
     ·rw [List.getElem?_append_left (by omega)] at hi hi'
      exact hh.cks i ks' cs' hi hi'
     ·have h1:=(List.getElem?_eq_some_iff.1 hi).1
      simp at h1
      have:i=acc.length:=by omega
      subst this
      rw [←hkl] at hi
      rw [←hcl] at hi'
      simp at hi hi'
      subst hi;subst hi'
      exact hck
    ·intro c hc
     simp only [List.flatten_append,List.flatten_cons,List.flatten_nil,List.append_nil,List.mem_append] at hc
     rcases hc with hc | hc
     ·exact hh.cval c hc
     ·exact (hcs c hc).1
    ·intro i cs' c y hide' hi hc hp
     rcases Nat.lt_or_ge i acc.length with hlt | hge
     ·rw [List.getElem?_append_left (by omega)] at hi
      exact hh.cin i cs' c y hide' hi hc hp
     ·have h1:=(List.getElem?_eq_some_iff.1 hi).1
      simp at h1
      have:i=acc.length:=by omega
      subst this
      rw [←hcl] at hi
      simp at hi
      subst hi
      rw [hx] at hp
      simp at hp
      obtain ⟨rfl,rfl⟩:=hp
      exact (hcs c hc).2
    ·intro e he
     rcases List.mem_append.1 he with he | he
     ·exact hh.top e he
     ·simp at he;subst he;exact htop
    ·intro e he
     rcases List.mem_append.1 he with he | he
     ·exact hh.idem e he
     ·simp at he;subst he;exact Aaf _ _
    ·intro i d' r' hi0 hi
     rw [List.getElem?_append_left (by omega)] at hi
     exact hh.dum i d' r' hi0 hi
    ·intro i d' r' hi0 hi
     rcases Nat.lt_or_ge i acc.length with hlt | hge
     ·rw [List.getElem?_append_left hlt] at hi;exact hh.dst i d' r' hi0 hi
     ·have hi':=(List.getElem?_eq_some_iff.1 hi).1
      simp at hi'
      have:i=acc.length:=by omega
      subst this
      simp at hi
      rw [hoi];simp [hod,hi.1]
    ·intro i ks' y hide' hi hp
     rcases Nat.lt_or_ge i acc.length with hlt | hge
     ·rw [List.getElem?_append_left (by omega)] at hi
      rw [List.take_append_of_le_length (by omega),List.take_append_of_le_length (by omega)]
      exact hh.kin i ks' y hide' hi hp
     ·have hi':=(List.getElem?_eq_some_iff.1 hi).1
      simp at hi'
      have:i=acc.length:=by omega
      subst this
      rw [←hkl] at hi
      simp at hi
      subst hi
      rw [hx] at hp
      simp at hp
      obtain ⟨rfl,rfl⟩:=hp
      rw [List.take_append_of_le_length (Nat.le_refl _),List.take_length,List.take_append_of_le_length (by omega),←hkl,List.take_length]
      exact hkill
    ·intro i d' r' ks' cs' y hide' hi0 hi hk hk2 hp
     rcases Nat.lt_or_ge i acc.length with hlt | hge
     ·rw [List.getElem?_append_left hlt] at hi
      rw [List.getElem?_append_left (by omega)] at hk hk2
      rw [List.take_append_of_le_length (by omega),List.take_append_of_le_length (by omega),List.take_append_of_le_length (by omega)]
      exact hh.ok i d' r' ks' cs' y hide' hi0 hi hk hk2 hp
     ·have hi':=(List.getElem?_eq_some_iff.1 hi).1
      simp at hi'
      have:i=acc.length:=by omega
      subst this
      simp at hi
      obtain ⟨rfl,rfl⟩:=hi
      rw [←hkl] at hk
      simp at hk
      subst hk
      rw [←hcl] at hk2
      simp at hk2
      subst hk2
      rw [hx] at hp
      simp at hp
      obtain ⟨rfl,rfl⟩:=hp
      have ek:(KS++[ks]).take acc.length=KS:=by rw [←hkl];simp
      have ec:(CS++[cs]).take acc.length=CS:=by rw [←hcl];simp
      rw [List.take_append_of_le_length (Nat.le_refl _),List.take_length,ek,ec]
      intro τ a w O vals fp next hle hτ hn
      refine hok τ a w O vals fp next hle hτ ?_
      intro a1 w1 O1 vals1 fp1 h1 h2
      have:Au d (a'.mapR (At d 0)) (Kl ks (Ff cs τ))=Au d a' (Kl ks (Ff cs τ)):=by
       simp only [Au,Aaf]
      rw [this] at hn
      exact hn a1 w1 O1 vals1 fp1 h1 h2
   simp only [E8] at h
   split at h
   ·rename_i hxg
    rw [hxg] at hg
    have hog:o.guard=none:=by
     cases hog:o.guard with
     | none=>rfl
     | some q=>rw [hog] at hg;simp at hg
    split at h
    ·rename_i hlo
     have hho:Kj x.o hide=hide:=by unfold Kj;rw [hlo]
     obtain ⟨d,a',ks,⟨⟨hfr,hkill⟩,hrest⟩,hok,hod⟩:=Amf (Q:=Q) (gv:=gv) hoi hfo h (fun _ _ _ _ _ _ _ _=>by simp [Region.wanted,hog])
     exact more d a' ks [] hfr hkill (.inl rfl) (by simp) hod (by rw [hho];exact hok) hrest
    ·rename_i s q hlo
     have hho:Kj x.o hide=hide.tail:=by unfold Kj;rw [hlo]
     obtain ⟨d,v,c,⟨⟨hfr,hls,hva⟩,hrest⟩,hok,hod,hcs⟩:=Auv (Q:=Q) (gv:=gv) hoi hfo hog h
     refine more d (.val v) [] [c] hfr rfl (.inr rfl) ?_ hod (by rw [hho];exact hok) hrest
     intro c' hc'
     simp at hc'
     subst hc'
     rw [hcs]
     refine ⟨?_,hls,q,hlo⟩
     unfold Anc at hva
     split at hva
     ·exact ⟨_,by assumption⟩
     ·cases hva
   ·rename_i s want hxg
    obtain ⟨hlo,h⟩:=h
    have hho:Kj x.o hide=hide:=by unfold Kj;rw [hlo]
    rw [hxg] at hg
    cases hog:o.guard with
    | none=>rw [hog] at hg;simp at hg
    | some q=>
      obtain ⟨j,want'⟩:=q
      rw [hog] at hg
      simp only [Bool.and_eq_true,beq_iff_eq,decide_eq_true_eq] at hg
      obtain ⟨⟨rfl,hsN⟩,hj⟩:=hg
      split at hj
      case h_2=>cases hj
      rename_i s2 hs2
      have:s2=s:=by simpa using hj
      subst this
      have skip:(match x.o.dst with
        | some d=>O4 d acc σ0=true∧E8 P ls σ0 r (acc++[(d,.val (.tup []))]) (KS++[[]]) (CS++[[]]) K
        | none=>False)→(∀τ a w O vals fp,Le (Du (hide++KS.flatten) acc++Ki ls hide CS.flatten σ0) τ→Ok τ a w O gv N vals fp→Region.wanted o (yielded ops a.tmps)=false) →
        ∃H KS CS,Heads n0 P ops gv N Q ls σ0 all H KS CS∧H.length=all.length∧(Ld H KS.flatten=true∧Aa6 H CS.flatten=true)∧K (Du KS.flatten H++Ff CS.flatten σ0):=by
       intro h2 hw
       split at h2
       case h_2=>exact h2.elim
       rename_i d hd
       have hod:o.dst=some d:=by rw [hdst,hd]
       refine more d (.val (.tup [])) [] [] h2.1 rfl (.inl rfl) (by simp) hod ?_ h2.2
       rw [hho]
       intro τ a w O vals fp next hle hτ hn
       unfold wpOp
       rw [hoi]
       simp only [hw τ a w O vals fp hle hτ]
       obtain ⟨vals',fp',k1,k2⟩:=Ao3 (ao:=x.o) hτ hdst (by intro d' hd';rw [hd'] at hdN;simpa using hdN)
       have:Sr x.o τ=Au d (.val (.tup [])) τ:=by simp [Sr,hd]
       rw [this] at k1
       exact hn _ _ _ _ _ k1 ((Mv.refl _ _ _).shrink k2)
      split at h
      case h_3=>exact h.elim
      case h_2=>
       rename_i hb
       refine skip h fun τ a w O vals fp hle hτ=> ?_
       have:look τ s2 = .val (.tup []):=by
        rcases hle s2 with h1 | h1
        ·rw [h1] at hb;cases hb
        ·rw [h1];exact hb
       simp [Region.wanted,hog,Aa2 hτ hs2 hsN this]
      rename_i b hb
      have hyield : ∀τ a w O vals fp,Le (Du (hide++KS.flatten) acc++Ki ls hide CS.flatten σ0) τ→Ok τ a w O gv N vals fp→yielded ops a.tmps j=some b:=by
       intro τ a w O vals fp hle hτ
       refine Ads hτ hs2 hsN ?_
       rcases hle s2 with h1 | h1
       ·rw [h1] at hb;cases hb
       ·rw [h1];exact hb
      by_cases hbw:b=want
      ·obtain ⟨d,a',ks,⟨⟨hfr,hkill⟩,hrest⟩,hok,hod⟩:=Amf (Q:=Q) (gv:=gv) hoi hfo (h.1 hbw) (fun τ a w O vals fp hle hτ=>by
        simp [Region.wanted,hog,hyield τ a w O vals fp hle hτ,hbw])
       exact more d a' ks [] hfr hkill (.inl rfl) (by simp) hod (by rw [hho];exact hok) hrest
      ·have hbn:b=(!want):=by cases b<;>cases want<;>simp_all
       exact skip (h.2 hbn) fun τ a w O vals fp hle hτ=>by simp [Region.wanted,hog,hyield τ a w O vals fp hle hτ,hbw]
end Go.Proofs.YtbnoclklhcbidaaDoor.Ax
namespace Go.Proofs.YtbnoclklhcbidaaDoor.Ax
open Go
theorem RelL.noref {w O L vals d} (hd:L d = .top) : ∀ {as vs},RelL w O L vals as vs→Bw (At d 0) as=as:=by
 intro as vs h
 have hne : ∀ {r:Nat} {V:Ax.V},L r = .val V→At d 0 r=fun _=>some r:=by
  intro r V hr
  funext l
  have:r≠d:=by rintro rfl;rw [hd] at hr;cases hr
  simp [At,this]
 induction h with
 | nil=>rfl
 | top _ ih=>simp [Bw,A.mapR,ih]
 | val _ _ _ ih=>simp [Bw,A.mapR,ih]
 | ref hL _ _ _ ih=>simp [Bw,A.mapR,ih,hne hL]
 | addr hL _ _ _ _ _ ih=>simp [Bw,A.mapR,ih,hne hL]
 | fad _ _ _ _ ih=>simp [Bw,A.mapR,ih]
 | agg _ _ ih1 ih2=>simp [Bw,A.mapR,ih1,ih2]
 | clo _ _ ih1 ih2=>simp [Bw,A.mapR,ih1,ih2]
 | tie _ _ _ _ _ ih1 ih2 ih3=>simp [Bw,A.mapR,ih1,ih2,ih3]
 | tcl _ _ _ _ _ ih1 ih2 ih3=>simp [Bw,A.mapR,ih1,ih2,ih3]
theorem Sim.noref {w O L vals fp d} (h:Sim w O L vals fp) (hd:L d = .top) (s:Nat):(L s).mapR (At d 0)=L s:=by
 cases hs:L s with
 | val v=>rfl
 | _=>
   have:=RelL.noref hd (h.rel s (by intro V hV;rw [hs] at hV;cases hV))
   rw [hs] at this
   simpa [Bw] using this
def kd (listed:Array Bool) (KS:List (List Nat)) (s:Nat):Bool:=(List.range KS.length).any fun i=>listed.getD i false&&(KS.getD i []).contains s
def Aek (listed:Array Bool) (KS:List (List Nat)) (H:St) (i:Nat):Bool:=listed.getD i false&&(match (H:List (Nat×A))[i]? with | some (s,_) => !kd listed KS s | none=>true)
abbrev mid (listed:Array Bool) (KS:List (List Nat)) (H σ0:St):St:=over (Aek listed KS H) 0 H++σ0
theorem Afe {listed:Array Bool} {KS:List (List Nat)} {H:St} {i s:Nat} {r:A} (h:(H:List (Nat×A))[i]? = some (s,r)):Aek listed KS H i=(listed.getD i false && !kd listed KS s):=by
 unfold Aek;rw [h]
theorem Yk {listed:Array Bool} {KS:List (List Nat)} {s:Nat}:kd listed KS s=true ↔ ∃i ks,KS[i]? = some ks∧listed.getD i false=true∧s∈ks:=by
 unfold kd
 rw [List.any_eq_true]
 constructor
 ·rintro ⟨i,hi,h⟩
  have hi':=List.mem_range.1 hi
  simp only [Bool.and_eq_true] at h
  refine ⟨i,KS[i],by simp [hi'],h.1,?_⟩
  have:=h.2
  rw [List.getD_eq_getElem?_getD,List.getElem?_eq_getElem hi'] at this
  simpa using this
 rintro ⟨i,ks,hk,hl,hs⟩
 have hi:=(List.getElem?_eq_some_iff.1 hk).1
 refine ⟨i,List.mem_range.2 hi,?_⟩
 rw [List.getD_eq_getElem?_getD,hk]
 simp [hl,hs]
theorem Asl {listed:Array Bool} {KS:List (List Nat)} {i s:Nat} {ks:List Nat} (hk:KS[i]? = some ks) (hsz:i<listed.size):kd (listed.setIfInBounds i true) KS s=(kd listed KS s || ks.contains s):=by
 rw [Bool.eq_iff_iff,Bool.or_eq_true,Yk,Yk]
 constructor
 ·rintro ⟨j,ks',hj,hl,hs⟩
  by_cases hij:i=j
  ·subst hij
   rw [hk] at hj;cases hj
   exact .inr (by simpa using hs)
  rw [getD_set_ne false hij] at hl
  exact .inl ⟨j,ks',hj,hl,hs⟩
 rintro (⟨j,ks',hj,hl,hs⟩ | hs)
 ·refine ⟨j,ks',hj,?_,hs⟩
  by_cases hij:i=j
  ·subst hij;simp [hsz]
  rw [getD_set_ne false hij];exact hl
 exact ⟨i,ks,hk,by simp [hsz],by simpa using hs⟩
mutual
theorem Aa8 {t:Nat}:(a:A)→(∀r∈a.roots,r≠t)→a.mapR (At t 0)=a
 | .top,_=>rfl
 | .val _,_=>rfl
 | .ref r p,h=>by
   have:r≠t:=h r (by simp [A.roots])
   simp [A.mapR,At,this]
 | .addr r p c,h=>by
   have:r≠t:=h r (by simp [A.roots])
   simp [A.mapR,At,this]
 | .fad _,_=>rfl
 | .agg as,h=>by simp only [A.mapR];rw [Jr as (by simpa [A.roots] using h)]
 | .clo f as,h=>by simp only [A.mapR];rw [Jr as (by simpa [A.roots] using h)]
 | .tie b f p q,h=>by simp only [A.mapR];rw [Jr p (fun x hx=>h x (by simp [A.roots,hx])),Jr q (fun x hx=>h x (by simp [A.roots,hx]))]
theorem Jr {t:Nat}:(as:List A)→(∀r∈Dw as,r≠t)→Bw (At t 0) as=as
 | [],_=>rfl
 | a::r,h=>by
   simp only [Bw]
   rw [Aa8 a fun x hx=>h x (by simp [Dw,hx]),Jr r fun x hx=>h x (by simp [Dw,hx])]
end
mutual
theorem W7 {t n:Nat}:(a:A)→(∀r∈a.roots,r≠t)→a.mapR (At t n)=a
 | .top,_=>rfl
 | .val _,_=>rfl
 | .ref r p,h=>by
   have:r≠t:=h r (by simp [A.roots])
   simp [A.mapR,At,this]
 | .addr r p c,h=>by
   have:r≠t:=h r (by simp [A.roots])
   simp [A.mapR,At,this]
 | .fad _,_=>rfl
 | .agg as,h=>by simp only [A.mapR];rw [Iw as (by simpa [A.roots] using h)]
 | .clo f as,h=>by simp only [A.mapR];rw [Iw as (by simpa [A.roots] using h)]
 | .tie b f p q,h=>by simp only [A.mapR];rw [Iw p (fun x hx=>h x (by simp [A.roots,hx])),Iw q (fun x hx=>h x (by simp [A.roots,hx]))]
theorem Iw {t n:Nat}:(as:List A)→(∀r∈Dw as,r≠t)→Bw (At t n) as=as
 | [],_=>rfl
 | a::r,h=>by
   simp only [Bw]
   rw [W7 a fun x hx=>h x (by simp [Dw,hx]),Iw r fun x hx=>h x (by simp [Dw,hx])]
end
theorem Aqn : ∀ {ks:List Nat} {σ:St},(∀t∈ks,∀s,(look σ s).mapR (At t 0)=look σ s) → ∀s,look (Kl ks σ) s=if ks.contains s then .top else look σ s:=by
 intro ks
 induction ks with
 | nil=>intro σ _ s;simp [Kl]
 | cons t r ih=>
   intro σ h s
   have h1 : ∀s,look (Au t .top σ) s=if s=t then .top else look σ s:=by
    intro s
    rw [B9]
    simp only [Gy]
    split
    ·rfl
    ·exact h t (by simp) s
   simp only [Kl]
   rw [ih (σ:=Au t .top σ) (fun t' ht' s'=>by
    rw [h1]
    split
    ·rfl
    ·exact h t' (by simp [ht']) s'),h1]
   by_cases hst:s=t
   ·subst hst;simp
   ·rw [if_neg hst]
    have:(t::r).contains s=r.contains s:=by simp [hst]
    rw [this]
def Ec:List (Nat×V×Nat)→(Nat→A)→Nat→A
 | [],L=>L
 | (r,T,n)::q,L=>Ec q fun s=>if s=r then .val T else (L s).mapR (At r n)
def bLL (S:Nat→Bool):Nat→List (List (Nat×V×Nat))→(Nat→A)→Nat→A
 | _,[],L=>L
 | k,c::r,L=>bLL S (k+1) r (if S k then Ec c L else L)
def Aox (S:Nat→Bool):Nat→List (List (Nat×V×Nat))→St→St
 | _,[],σ=>σ
 | k,c::r,σ=>Aox S (k+1) r (if S k then Ff c σ else σ)
theorem Hj : ∀ {cs:List (Nat×V×Nat)} {σ:St},(∀c∈cs,∃U,look σ c.1 = .val U)→look (Ff cs σ)=Ec cs (look σ):=by
 intro cs
 induction cs with
 | nil=>intro σ _;rfl
 | cons c q ih=>
   intro σ h
   obtain ⟨r,T,n⟩:=c
   obtain ⟨U,hU⟩:=h (r,T,n) (by simp)
   simp only [Ff,Ec]
   rw [ih,Hh hU]
   intro c hc
   rw [Hh hU]
   obtain ⟨U2,hU2⟩:=h c (by simp [hc])
   by_cases e:c.1=r
   ·exact ⟨T,by simp [e]⟩
   ·exact ⟨U2,by simp only;rw [if_neg e,hU2];rfl⟩
theorem Agw {s:Nat} : ∀ {cs:List (Nat×V×Nat)} {L:Nat→A} {U},L s = .val U → ∃U',Ec cs L s = .val U':=by
 intro cs
 induction cs with
 | nil=>intro L U h;exact ⟨U,h⟩
 | cons c q ih=>
   intro L U h
   obtain ⟨r,T,n⟩:=c
   simp only [Ec]
   by_cases e:s=r
   ·exact ih (U:=T) (by simp [e])
   ·exact ih (U:=U) (by rw [if_neg e,h];rfl)
mutual
theorem Akq {r n:Nat}:(a:A)→Ahs r n a=true→a.mapR (At r n)=a
 | .top,_=>rfl
 | .val _,_=>rfl
 | .ref x p,h=>by
   simp only [Ahs,Bool.or_eq_true,Bool.not_eq_true',decide_eq_true_eq] at h
   have:¬(x=r∧n≤p.length):=by
    rintro ⟨rfl,h2⟩
    rcases h with h | h
    ·rw [Nat.beq_refl] at h;cases h
    ·omega
   simp [A.mapR,At,this]
 | .addr x p c,h=>by
   simp only [Ahs,Bool.or_eq_true,Bool.not_eq_true',decide_eq_true_eq] at h
   have:¬(x=r∧n≤p.length):=by
    rintro ⟨rfl,h2⟩
    rcases h with h | h
    ·rw [Nat.beq_refl] at h;cases h
    ·omega
   simp [A.mapR,At,this]
 | .fad _,_=>rfl
 | .agg as,h=>by simp only [A.mapR];rw [Ql as (by simpa only [Ahs] using h)]
 | .clo f as,h=>by simp only [A.mapR];rw [Ql as (by simpa only [Ahs] using h)]
 | .tie b f p q,h=>by
   simp only [Ahs,Bool.and_eq_true] at h
   simp only [A.mapR];rw [Ql p h.1,Ql q h.2]
theorem Ql {r n:Nat}:(as:List A)→Acz r n as=true→Bw (At r n) as=as
 | [],_=>rfl
 | a::q,h=>by
   simp only [Acz,Bool.and_eq_true] at h
   simp only [Bw]
   rw [Akq a h.1,Ql q h.2]
end
theorem Ap0 {s:Nat} : ∀ {cs:List (Nat×V×Nat)} {L:Nat→A},(∀c∈cs,c.1≠s∧Ahs c.1 c.2.2 (L s)=true)→Ec cs L s=L s:=by
 intro cs
 induction cs with
 | nil=>intro L _;rfl
 | cons c q ih=>
   intro L h
   obtain ⟨r,T,n⟩:=c
   have h1:=h (r,T,n) (by simp)
   have e1:(fun s=>if s=r then A.val T else (L s).mapR (At r n)) s=L s:=by
    simp only
    rw [if_neg (fun e=>h1.1 e.symm),Akq _ h1.2]
   simp only [Ec]
   rw [ih]
   ·exact e1
   ·intro c hc
    have e2:(if s=r then A.val T else (L s).mapR (At r n))=L s:=e1
    rw [e2]
    exact h c (by simp [hc])
theorem Yo {s:Nat} : ∀ {cs:List (Nat×V×Nat)} {L:Nat→A},(∀c∈cs,c.1≠s∧c.1∉(L s).roots)→Ec cs L s=L s:=by
 intro cs
 induction cs with
 | nil=>intro L _;rfl
 | cons c q ih=>
   intro L h
   obtain ⟨r,T,n⟩:=c
   have h1:=h (r,T,n) (by simp)
   have hk : ∀(a:A),r∉a.roots→a.mapR (At r n)=a:=by
    have key : ∀p,At r n p=At r n p:=fun _=>rfl
    intro a ha
    exact W7 a (fun x hx e=>ha (e▸hx))
   have e1:(fun s=>if s=r then A.val T else (L s).mapR (At r n)) s=L s:=by
    simp only
    rw [if_neg (fun e=>h1.1 e.symm),hk _ h1.2]
   simp only [Ec]
   rw [ih]
   ·exact e1
   ·intro c hc
    have e2:(if s=r then A.val T else (L s).mapR (At r n))=L s:=e1
    rw [e2]
    exact h c (by simp [hc])
theorem Arr {s:Nat} : ∀ {cs:List (Nat×V×Nat)} {L M:Nat→A},L s=M s→Ec cs L s=Ec cs M s:=by
 intro cs
 induction cs with
 | nil=>intro L M h;exact h
 | cons c q ih=>
   intro L M h
   obtain ⟨r,T,n⟩:=c
   simp only [Ec]
   exact ih (by simp only [h])
theorem Xy (a b:List (Nat×V×Nat)) (L:Nat→A):Ec (a++b) L=Ec b (Ec a L):=by
 induction a generalizing L with
 | nil=>rfl
 | cons c q ih=>obtain ⟨r,T,n⟩:=c;simp only [List.cons_append,Ec];exact ih _
mutual
theorem Aex {t r n:Nat}:(a:A)→a.mapR (At t 0)=a→(a.mapR (At r n)).mapR (At t 0)=a.mapR (At r n)
 | .top,_=>rfl
 | .val _,_=>rfl
 | .ref x p,h=>by
   by_cases e:x=r∧n≤p.length
   ·simp [A.mapR,At,e]
   ·have:A.mapR (At r n) (.ref x p) = .ref x p:=by simp [A.mapR,At,e]
    rw [this];exact h
 | .addr x p c,h=>by
   by_cases e:x=r∧n≤p.length
   ·simp [A.mapR,At,e]
   ·have:A.mapR (At r n) (.addr x p c) = .addr x p c:=by simp [A.mapR,At,e]
    rw [this];exact h
 | .fad _,_=>rfl
 | .agg as,h=>by
   simp only [A.mapR,A.agg.injEq] at h ⊢
   exact Ls as h
 | .clo f as,h=>by
   simp only [A.mapR,A.clo.injEq,true_and] at h ⊢
   exact Ls as h
 | .tie b f p q,h=>by
   simp only [A.mapR,A.tie.injEq,true_and] at h ⊢
   exact ⟨Ls p h.1,Ls q h.2⟩
theorem Ls {t r n:Nat}:(as:List A)→Bw (At t 0) as=as→Bw (At t 0) (Bw (At r n) as)=Bw (At r n) as
 | [],_=>rfl
 | a::q,h=>by
   simp only [Bw,List.cons.injEq] at h ⊢
   exact ⟨Aex a h.1,Ls q h.2⟩
end
mutual
theorem Adu {x r n:Nat}:(a:A)→x∈(a.mapR (At r n)).roots→x∈a.roots
 | .top,h=>h
 | .val _,h=>h
 | .ref y p,h=>by
   by_cases e:y=r∧n≤p.length
   ·simp [A.mapR,At,e,A.roots] at h
   ·have:A.mapR (At r n) (.ref y p) = .ref y p:=by simp [A.mapR,At,e]
    rw [this] at h;exact h
 | .addr y p c,h=>by
   by_cases e:y=r∧n≤p.length
   ·simp [A.mapR,At,e,A.roots] at h
   ·have:A.mapR (At r n) (.addr y p c) = .addr y p c:=by simp [A.mapR,At,e]
    rw [this] at h;exact h
 | .fad _,h=>h
 | .agg as,h=>by
   simp only [A.mapR,A.roots] at h ⊢
   exact L1 as h
 | .clo f as,h=>by
   simp only [A.mapR,A.roots] at h ⊢
   exact L1 as h
 | .tie b f p q,h=>by
   simp only [A.mapR,A.roots,List.mem_append] at h ⊢
   exact h.imp (L1 p) (L1 q)
theorem L1 {x r n:Nat}:(as:List A)→x∈Dw (Bw (At r n) as)→x∈Dw as
 | [],h=>h
 | a::q,h=>by
   simp only [Bw,Dw,List.mem_append] at h ⊢
   exact h.imp (Adu a) (L1 q)
end
theorem Amq {t:Nat} : ∀ {cs:List (Nat×V×Nat)} {L:Nat→A},(∀s,(L s).mapR (At t 0)=L s) → ∀s,(Ec cs L s).mapR (At t 0)=Ec cs L s:=by
 intro cs
 induction cs with
 | nil=>intro L h;exact h
 | cons c q ih=>
   intro L h
   obtain ⟨r,T,n⟩:=c
   simp only [Ec]
   refine ih fun s=> ?_
   split
   ·rfl
   ·exact Aex _ (h s)
theorem Ag9 {s:Nat} {cs:List (Nat×V×Nat)} {L:Nat→A} (h:L s = .top) (hc : ∀c∈cs,c.1≠s):Ec cs L s = .top:=by
 rw [Yo,h]
 intro c hcc
 exact ⟨hc c hcc,by rw [h];simp [A.roots]⟩
def Cl (h:List Nat) (L M:Nat→A):Prop := ∀s,L s = .top∨(M s=L s∧h.contains s=false ∧ ∀r∈(L s).roots,h.contains r=false)
theorem Cl.tau {h:List Nat} : ∀ {cs:List (Nat×V×Nat)} {L M:Nat→A},(∀c∈cs,h.contains c.1=true)→Cl h L M→Cl h L (Ec cs M):=by
 intro cs L M hc hl s
 rcases hl s with e | ⟨e1,e2,e3⟩
 ·exact .inl e
 refine .inr ⟨?_,e2,e3⟩
 rw [Yo,e1]
 intro c hcc
 have:=hc c hcc
 refine ⟨fun e=> ?_,fun hr=> ?_⟩
 ·rw [e,e2] at this;cases this
 rw [e1] at hr
 rw [e3 _ hr] at this;cases this
theorem Cl.one {h:List Nat} {r n:Nat} {T:V} {L M:Nat→A} (hc:h.contains r=false) (hl:Cl h L M) :
  Cl h (fun s=>if s=r then .val T else (L s).mapR (At r n)) (fun s=>if s=r then .val T else (M s).mapR (At r n)):=by
 intro s
 simp only
 by_cases e:s=r
 ·right
  rw [if_pos e,if_pos e]
  subst e
  exact ⟨rfl,hc,by simp [A.roots]⟩
 rw [if_neg e,if_neg e]
 rcases hl s with e1 | ⟨e1,e2,e3⟩
 ·left;rw [e1];rfl
 exact .inr ⟨by rw [e1],e2,fun x hx=>e3 x (Adu _ hx)⟩
theorem Cl.both {h:List Nat} : ∀ {cs:List (Nat×V×Nat)} {L M:Nat→A},Cl h L M→Cl h (Ec (cs.filter fun c => !h.contains c.1) L) (Ec cs M):=by
 intro cs
 induction cs with
 | nil=>intro L M hl;exact hl
 | cons c q ih=>
   intro L M hl
   obtain ⟨r,T,n⟩:=c
   cases hr:h.contains r with
   | true=>
     rw [List.filter_cons_of_neg (by simp only [hr];simp)]
     exact ih (Cl.tau (cs:=[(r,T,n)]) (by simpa using hr) hl)
   | false=>
     rw [List.filter_cons_of_pos (by simp only [hr];rfl)]
     exact ih (Cl.one hr hl)
theorem Cl.base {h:List Nat} {S:Nat→Bool} {i:Nat} : ∀ {CS:List (List (Nat×V×Nat))} {k:Nat} {L M:Nat→A},Cl h L M →
  (∀j cs,CS[j]? = some cs → ∀c∈cs,h.contains c.1=false→(S (k+j)=true↔k+j<i))→Cl h (Ec ((CS.take (i-k)).flatten.filter fun c => !h.contains c.1) L) (bLL S k CS M):=by
 intro CS
 induction CS with
 | nil=>intro k L M hl _;simpa [Ec,bLL] using hl
 | cons c r ih=>
   intro k L M hl hS
   have hS' : ∀j cs,r[j]? = some cs → ∀c∈cs,h.contains c.1=false→(S (k+1+j)=true↔k+1+j<i):=by
    intro j cs hj c hc hh
    have:=hS (j+1) cs (by simpa using hj) c hc hh
    rw [show k+(j+1)=k+1+j by omega] at this;exact this
   have h0:=hS 0 c rfl
   simp only [Nat.add_zero] at h0
   simp only [bLL]
   by_cases hk:k<i
   ·rw [show i-k=(i-(k+1))+1 by omega,List.take_succ_cons,List.flatten_cons,List.filter_append,Xy]
    refine ih ?_ hS'
    cases hSk:S k with
    | true=>exact Cl.both hl
    | false=>
      have:(c.filter fun c => !h.contains c.1)=[]:=by
       rw [List.filter_eq_nil_iff]
       intro x hx
       cases hh:h.contains x.1 with
       | true=>simp
       | false=>rw [hSk] at h0;have:=(h0 x hx hh).2 hk;cases this
      rw [this]
      exact hl
   ·have e:=ih (k:=k+1) (L:=L) (M:=if S k=true then Ec c M else M) (by
     cases hSk:S k with
     | false=>exact hl
     | true=>
       refine Cl.tau (fun x hx=> ?_) hl
       cases hh:h.contains x.1 with
       | true=>rfl
       | false=>exact absurd ((h0 x hx hh).1 hSk) hk) hS'
    rw [show i-(k+1)=0 by omega] at e
    rw [show i-k=0 by omega]
    exact e
theorem Rd (h:List Nat) (σ:St) (s:Nat):look (V4 h σ) s=if h.contains s || (look σ s).roots.any (h.contains ·) then .top else look σ s:=by
 induction σ with
 | nil=>simp [V4,look,A.roots]
 | cons e r ih=>
   obtain ⟨k,a⟩:=e
   simp only [V4,look]
   by_cases hk:k=s
   ·subst hk;simp
   ·simp only [if_neg hk,ih]
theorem Cl.hide (h:List Nat) (σ:St):Cl h (look (V4 h σ)) (look σ):=by
 intro s
 rw [Rd]
 split
 ·exact .inl rfl
 rename_i hc
 simp only [Bool.or_eq_true,not_or,Bool.not_eq_true,List.any_eq_false] at hc
 exact .inr ⟨rfl,hc.1,fun r hr=>by simpa using hc.2 r hr⟩
theorem Ada {S:Nat→Bool} : ∀ {CS:List (List (Nat×V×Nat))} {k:Nat} {L:Nat→A},(∀j cs,CS[j]? = some cs→cs≠[]→S (k+j)=false)→bLL S k CS L=L:=by
 intro CS
 induction CS with
 | nil=>intro k L _;rfl
 | cons c r ih=>
   intro k L h
   have h0:(if S k=true then Ec c L else L)=L:=by
    by_cases hc:c=[]
    ·subst hc;simp [Ec]
    ·rw [show S k=false by simpa using h 0 c rfl hc];simp
   simp only [bLL]
   rw [h0]
   exact ih fun j cs hj hc=>by rw [show k+1+j=k+(j+1) by omega];exact h (j+1) cs (by simpa using hj) hc
theorem Apx {S S':Nat→Bool} : ∀ {CS:List (List (Nat×V×Nat))} {k:Nat} {L:Nat→A},(∀j cs,CS[j]? = some cs→cs≠[]→S (k+j)=S' (k+j))→bLL S k CS L=bLL S' k CS L:=by
 intro CS
 induction CS with
 | nil=>intro k L _;rfl
 | cons c r ih=>
   intro k L h
   have h0:(if S k=true then Ec c L else L)=(if S' k=true then Ec c L else L):=by
    by_cases hc:c=[]
    ·subst hc;simp [Ec]
    ·rw [show S k=S' k by simpa using h 0 c rfl hc]
   simp only [bLL]
   rw [h0]
   exact ih fun j cs hj hc=>by rw [show k+1+j=k+(j+1) by omega];exact h (j+1) cs (by simpa using hj) hc
theorem Ava {S S':Nat→Bool} {i:Nat} {cs:List (Nat×V×Nat)} : ∀ {CS:List (List (Nat×V×Nat))} {k:Nat} {L:Nat→A},k≤i→CS[i-k]? = some cs→S i=false→S' i=true→(∀j,j≠i→S' j=S j) →
  (∀j cs,CS[j]? = some cs→cs≠[]→i<k+j→S (k+j)=false)→bLL S' k CS L=Ec cs (bLL S k CS L):=by
 intro CS
 induction CS with
 | nil=>intro k L _ h;simp at h
 | cons c r ih=>
   intro k L hk hi hSi hSi' hne hgt
   simp only [bLL]
   rcases Nat.eq_or_lt_of_le hk with e | e
   ·subst e
    simp at hi
    subst hi
    rw [hSi,hSi']
    simp only [if_true,Bool.false_eq_true,if_false]
    rw [Ada (S:=S'),Ada (S:=S)]
    ·intro j cs hj hc
     rw [show k+1+j=k+(j+1) by omega]
     exact hgt (j+1) cs (by simpa using hj) hc (by omega)
    ·intro j cs hj hc
     rw [hne _ (by omega),show k+1+j=k+(j+1) by omega]
     exact hgt (j+1) cs (by simpa using hj) hc (by omega)
   ·rw [hne k (by omega)]
    exact ih (by omega) (by rw [show i-k=(i-(k+1))+1 by omega] at hi;simpa using hi) hSi hSi' hne fun j cs hj hc hl=>by
     rw [show k+1+j=k+(j+1) by omega] at hl ⊢
     exact hgt (j+1) cs (by simpa using hj) hc hl
theorem Aul {S:Nat→Bool} : ∀ {CS:List (List (Nat×V×Nat))} {k:Nat} {L:Nat→A},(∀j,j<CS.length→S (k+j)=true)→bLL S k CS L=Ec CS.flatten L:=by
 intro CS
 induction CS with
 | nil=>intro k L _;rfl
 | cons c r ih=>
   intro k L h
   simp only [bLL,List.flatten_cons]
   rw [show S k=true by simpa using h 0 (by simp),Xy]
   simp only [if_true]
   exact ih fun j hj=>by rw [show k+1+j=k+(j+1) by omega];exact h (j+1) (by simpa using hj)
theorem Amu {S:Nat→Bool} : ∀ {CS:List (List (Nat×V×Nat))} {k:Nat} {σ:St},(∀c∈CS.flatten,∃U,look σ c.1 = .val U)→look (Aox S k CS σ)=bLL S k CS (look σ):=by
 intro CS
 induction CS with
 | nil=>intro k σ _;rfl
 | cons c r ih=>
   intro k σ h
   simp only [Aox,bLL]
   have hc : ∀x∈c,∃U,look σ x.1 = .val U:=fun x hx=>h x (by simp [hx])
   rw [ih]
   ·cases hS:S k with
    | true=>simp only [if_true];rw [Hj hc]
    | false=>simp
   ·intro x hx
    obtain ⟨U,hU⟩:=h x (by simp only [List.flatten_cons,List.mem_append];exact .inr hx)
    cases hS:S k with
    | true=>simp only [if_true];rw [Hj hc];exact Agw hU
    | false=>exact ⟨U,by simpa using hU⟩
theorem As9 {S:Nat→Bool} {t:Nat} : ∀ {CS:List (List (Nat×V×Nat))} {k:Nat} {L:Nat→A},(∀s,(L s).mapR (At t 0)=L s) → ∀s,(bLL S k CS L s).mapR (At t 0)=bLL S k CS L s:=by
 intro CS
 induction CS with
 | nil=>intro k L h;exact h
 | cons c r ih=>
   intro k L h
   simp only [bLL]
   refine ih ?_
   split
   ·exact Amq h
   ·exact h
theorem Atp {S:Nat→Bool} {s:Nat} : ∀ {CS:List (List (Nat×V×Nat))} {k:Nat} {L:Nat→A},L s = .top→(∀c∈CS.flatten,c.1≠s)→bLL S k CS L s = .top:=by
 intro CS
 induction CS with
 | nil=>intro k L h _;exact h
 | cons c r ih=>
   intro k L h hc
   simp only [bLL]
   refine ih ?_ fun x hx=>hc x (by simp only [List.flatten_cons,List.mem_append];exact .inr hx)
   split
   ·exact Ag9 h fun x hx=>hc x (by simp [hx])
   ·exact h
theorem Au5 {S:Nat→Bool} {s:Nat} : ∀ {CS:List (List (Nat×V×Nat))} {k:Nat} {L:Nat→A} {U},L s = .val U → ∃U',bLL S k CS L s = .val U':=by
 intro CS
 induction CS with
 | nil=>intro k L U h;exact ⟨U,h⟩
 | cons c r ih=>
   intro k L U h
   simp only [bLL]
   split
   ·obtain ⟨U',h'⟩:=Agw (cs:=c) h;exact ih h'
   ·exact ih h
section
variable {P:Program} {ops:Array Oper} {gv:Nat→Value} {N:Nat} {Q:Exit→Act→World→Prop} {ls:List Nat} {σ0 B:St} {pre:List (G×List Nat)} {H:St} {KS:List (List Nat)} {CS:List (List (Nat×V×Nat))} {n0:Nat}
theorem Arv : ∀ {os:List Oper} {acc},(Ab3 os acc).length=acc.length+os.length:=by
 intro os
 induction os with
 | nil=>intro acc;simp [Ab3]
 | cons o r ih=>intro acc;simp only [Ab3];rw [ih];simp;omega
theorem Alz : ∀ {os:List Oper} {acc} {i},i<acc.length→(Ab3 os acc)[i]? = acc[i]? := by
 intro os
 induction os with
 | nil=>intro acc i _;rfl
 | cons o r ih=>
   intro acc i h
   simp only [Ab3]
   rw [ih (by simp;omega),List.getElem?_append_left h]
theorem Ao7 : ∀ {os:List Oper} {acc:List (List Nat)} {i:Nat} {o:Oper} {j:Nat},os[i]? = some o→j∈(Ab3 os acc).getD (acc.length+i) []→(∀e∈o.after,Region.binds .any e=true→e.on<acc.length+i) →
  ∃e∈o.after,Region.binds .any e=true∧(j=e.on∨j∈(Ab3 os acc).getD e.on []):=by
 intro os
 induction os with
 | nil=>intro acc i o j h;simp at h
 | cons o' r ih=>
   intro acc i o j h hj he
   cases i with
   | zero=>
     simp at h;subst h
     simp only [Ab3,Nat.add_zero] at hj
     rw [List.getD_eq_getElem?_getD,Alz (by simp)] at hj
     simp at hj
     obtain ⟨e,⟨h1,h2⟩,h3⟩:=hj
     refine ⟨e,h1,h2,h3.imp id fun h3=> ?_⟩
     have hlt:=he e h1 h2
     simp only [Nat.add_zero] at hlt
     simp only [Ab3]
     rw [List.getD_eq_getElem?_getD,Alz (by simp;omega),List.getElem?_append_left hlt]
     simpa using h3
   | succ i=>
     simp only [Ab3] at hj ⊢
     have h':r[i]? = some o:=by simpa using h
     have:=ih (acc:=acc++[((o'.after.toList.filter (Region.binds .any ·)).flatMap fun e=>e.on::acc.getD e.on []).eraseDups]) (j:=j) h' (by simpa [Nat.add_assoc,Nat.add_comm 1 i] using hj) (by
      intro e h1 h2
      have:=he e h1 h2
      simp;omega)
     exact this
theorem Gr {n:Nat} {listed:Array Bool} (inv:HeadInv .any ops n listed) (hlt : ∀(i:Nat) (o:Oper),ops[i]? = some o → ∀e∈o.after,Region.binds .any e=true→e.on<i) :
  ∀(i:Nat) (o:Oper),ops[i]? = some o→(∀e∈o.after,Region.binds .any e=true→listed.getD e.on false=true) → ∀j∈(Eu ops).getD i [],listed.getD j false=true:=by
 intro i
 induction i using Nat.strongRecOn with
 | _ i ih=>
   intro o ho hall j hj
   obtain ⟨e,he,hb,h⟩:=Ao7 (os:=ops.toList) (acc:=[]) (i:=i) (o:=o) (j:=j) (by simpa using ho) (by simpa [Eu] using hj) (by simpa using hlt i o ho)
   rcases h with rfl | h
   ·exact hall e he hb
   ·have hl:=hall e he hb
    have hon:=hlt i o ho e he hb
    have hs:e.on<ops.size:=by have:=(Array.getElem?_eq_some_iff.1 ho).1;omega
    have ho2:ops[e.on]? = some ops[e.on]:=by simp [hs]
    exact ih e.on hon _ ho2 (fun e' he' hb'=>inv.closed e.on _ ho2 hl e' he' hb') j h
theorem Ad5 {T:List (List Nat)} : ∀ {pre:List (G×List Nat)} {k i:Nat} {x:G} {hide:List Nat},Mx ops T k pre=true→pre[i]? = some (x,hide) →
  ∀j,j<k+i→j∈T.getD (k+i) [] ∨ ∃d,(ops[j]?).bind (fun o:Oper=>o.dst)=some d∧hide.contains d=true:=by
 intro pre
 induction pre with
 | nil=>intro k i x hide _ h;simp at h
 | cons e r ih=>
   intro k i x hide h hp j hj
   obtain ⟨y,hd⟩:=e
   simp only [Mx,Bool.and_eq_true] at h
   cases i with
   | zero=>
     simp at hp;obtain ⟨rfl,rfl⟩:=hp
     have:=List.all_eq_true.1 h.1 j (List.mem_range.2 (by simpa using hj))
     simp only [Bool.or_eq_true] at this
     rcases this with h1 | h1
     ·exact .inl (by simpa using h1)
     ·right
      split at h1
      ·rename_i d hd;exact ⟨d,hd,h1⟩
      ·cases h1
   | succ i=>
     have:=ih (k:=k+1) (i:=i) h.2 (by simpa using hp) j (by omega)
     rwa [show k+1+i=k+(i+1) by omega] at this
theorem Acu (hH:Heads n0 P ops gv N Q ls σ0 pre H KS CS) {i s:Nat} {ks:List Nat} {x:G} {hide:List Nat} (hk:KS[i]? = some ks) (hp:pre[i]? = some (x,hide)) (hs:s∈ks) :
  s∈Acm x.o ∧ ∃(j:Nat) (q:A),j<i∧(H:List (Nat×A))[j]? = some (s,q)∧hide.contains s=false:=by
 have h:=hH.kin i ks x hide hk hp
 unfold W4 at h
 have:=List.all_eq_true.1 h s hs
 simp only [Bool.and_eq_true] at this
 refine ⟨by simpa using this.2,?_⟩
 have hkey:=this.1
 rw [Uc] at hkey
 simp only [Bool.and_eq_true,Bool.not_eq_true'] at hkey
 obtain ⟨j,q,hj⟩:=G9 hkey.1
 have hji:j<i:=by
  have:=(List.getElem?_eq_some_iff.1 hj).1
  simp at this;omega
 rw [List.getElem?_take,if_pos hji] at hj
 refine ⟨j,q,hji,hj,?_⟩
 cases hc:hide.contains s with
 | false=>rfl
 | true=>
   have:(hide++(KS.take i).flatten).contains s=true:=by
    simp only [List.contains_iff_mem] at hc ⊢
    exact List.mem_append_left _ hc
   rw [this] at hkey;cases hkey.2
theorem Aoe (hH:Heads n0 P ops gv N Q ls σ0 pre H KS CS) (hT:Mx ops (Eu ops) 0 pre=true) {i s j:Nat} {q:A} {ks:List Nat} {x:G} {hide:List Nat} (hk:KS[i]? = some ks) (hp:pre[i]? = some (x,hide)) (hs:s∈ks) (hj0:n0≤j) (hj:(H:List (Nat×A))[j]? = some (s,q)) :
  j<i∧j∈(Eu ops).getD i []:=by
 obtain ⟨_,j',q',hji,hj',hh⟩:=Acu hH hk hp hs
 have:=Axk hH.kn hj hj'
 subst this
 refine ⟨hji,?_⟩
 rcases Ad5 hT hp j (by omega) with h1 | ⟨d',h1,h2⟩
 ·simpa using h1
 rw [hH.dst j s q hj0 hj] at h1
 cases h1
 rw [h2] at hh;cases hh
theorem Ap9 {T:List (List Nat)} (h:Acy ops T pre=true) {i k j s:Nat} {x y:G} {hx hy:List Nat} (hp:pre[i]? = some (x,hx)) (hs:s∈Acm x.o) (hk:k<i) (hpk:pre[k]? = some (y,hy)) (hj:j<k) (hd:(ops[j]?).bind (fun o:Oper=>o.dst)=some s) :
  hy.contains s=true∨k∈T.getD i []:=by
 unfold Acy at h
 have h1:=List.all_eq_true.1 h i (List.mem_range.2 (List.getElem?_eq_some_iff.1 hp).1)
 rw [hp] at h1
 have h2:=List.all_eq_true.1 (List.all_eq_true.1 h1 s hs) k (List.mem_range.2 hk)
 rw [hpk] at h2
 simp only [Bool.or_eq_true] at h2
 rcases h2 with (h2 | h2) | h2
 ·have:=List.all_eq_true.1 h2 j (List.mem_range.2 hj)
  simp [hd] at this
 ·exact .inl h2
 exact .inr (by simpa using h2)
theorem As7 {n i:Nat} {listed:Array Bool} {x:G} {hide:List Nat} {d:Nat} {r:A} (hH:Heads n0 P ops gv N Q ls σ0 pre H KS CS) (hT:Mx ops (Eu ops) 0 pre=true) (hKT:Acy ops (Eu ops) pre=true) (hpl:pre.length=n)
  (hp:pre[i]? = some (x,hide)) (_hi:(H:List (Nat×A))[i]? = some (d,r)) (hb : ∀j∈(Eu ops).getD i [],listed.getD j false=true) (hcl : ∀k,listed.getD k false=true → ∀j∈(Eu ops).getD k [],listed.getD j false=true) (hui:listed.getD i false=false)
  {V0:St} (hV : ∀s,A6 s H=true→look V0 s = .top) (hVB : ∀s,look V0 s = .top∨look B s=look V0 s) :
  Le (Du (hide++(KS.take i).flatten) ((H:List (Nat×A)).take i)++V0) (mid listed KS H B):=by
 intro s
 rw [E2,mid,E2]
 by_cases hk:A6 s (Du (hide++(KS.take i).flatten) ((H:List (Nat×A)).take i))=true
 ·rw [if_pos hk]
  rw [Uc] at hk
  simp only [Bool.and_eq_true,Bool.not_eq_true'] at hk
  rw [Wr _ _ _ hk.2]
  have hnh:hide.contains s=false∧(KS.take i).flatten.contains s=false:=by
   have:=hk.2
   simp only [←Bool.not_eq_true,List.contains_iff_mem,List.mem_append,not_or] at this ⊢
   exact this
  obtain ⟨j,q,hj⟩:=G9 hk.1
  have hji:j<i:=by
   have:=(List.getElem?_eq_some_iff.1 hj).1
   simp at this;omega
  have hj':(H:List (Nat×A))[j]? = some (s,q):=by
   rw [List.getElem?_take,if_pos hji] at hj;exact hj
  have hlook:look ((H:List (Nat×A)).take i) s=q:=by
   have hkt : ∀(A B:St),kn (A++B)=true→kn A=true:=by
    intro A B
    induction A with
    | nil=>intro _;rfl
    | cons e r ih=>
      obtain ⟨k,a⟩:=e
      intro h
      simp only [List.cons_append,kn,Bool.and_eq_true,Bool.not_eq_true'] at h ⊢
      refine ⟨?_,ih h.2⟩
      have:=h.1
      cases hkr:A6 k r with
      | false=>rfl
      | true=>
        obtain ⟨m,q,hm⟩:=G9 hkr
        have:A6 k (r++B)=true:=M6 (i:=m) (r:=q) (by rw [List.getElem?_append_left (List.getElem?_eq_some_iff.1 hm).1];exact hm)
        rw [this] at h;exact absurd h.1 (by simp)
   exact Ao8 (hkt _ ((H:List (Nat×A)).drop i) (by rw [List.take_append_drop];exact hH.kn)) hj
  by_cases hj0:j<n0
  ·left;rw [hlook];exact hH.dum j s q hj0 hj'
  have hj0:n0≤j:=Nat.not_lt.1 hj0
  have hl:listed.getD j false=true:=by
   rcases Ad5 hT hp j (by omega) with h1 | ⟨d',h1,h2⟩
   ·exact hb j (by simpa using h1)
   ·rw [hH.dst j s q hj0 hj'] at h1
    cases h1
    rw [h2] at hnh;cases hnh.1
  have hnk:kd listed KS s=false:=by
   cases hkd:kd listed KS s with
   | false=>rfl
   | true=>
     obtain ⟨k,ks,hks,hlk,hsk⟩:=Yk.1 hkd
     have hkl:k<pre.length:=by
      have:=(List.getElem?_eq_some_iff.1 hks).1
      have h2:=hH.klen
      have h3:=hH.len
      omega
     have hpk:pre[k]? = some pre[k]:=by simp [hkl]
     rcases Nat.lt_trichotomy k i with h1 | h1 | h1
     ·have:s∈(KS.take i).flatten:=List.mem_flatten.2 ⟨ks,List.mem_iff_getElem?.2 ⟨k,by rw [List.getElem?_take,if_pos h1];exact hks⟩,hsk⟩
      have h2:=hnh.2
      rw [List.contains_iff_mem.2 this] at h2;cases h2
     ·subst h1;rw [hui] at hlk;cases hlk
     ·have hm:=(Acu hH hks (x:=pre[k].1) (hide:=pre[k].2) hpk hsk).1
      rcases Ap9 hKT hpk hm h1 hp hji (hH.dst j s q hj0 hj') with h2 | h2
      ·rw [h2] at hnh;cases hnh.1
      ·have:=hcl k hlk i h2
       rw [hui] at this;cases this
  have ho:=Aoc (S:=Aek listed KS H) (k:=0) hH.kn hj'
  simp only [Nat.zero_add] at ho
  have hal:Aek listed KS H j=true:=by rw [Afe hj',hl,hnk];rfl
  rw [ho.1,hal]
  right
  simp only [if_true]
  rw [ho.2 hal]
  exact hlook.symm
 rw [if_neg hk]
 by_cases h2:A6 s H=true
 ·left
  exact hV s h2
 have:=Ah8 (S:=Aek listed KS H) (k:=0) (s:=s) (H:=H) (by simpa using h2)
 rw [this]
 exact hVB s
theorem Gc (hH:Heads n0 P ops gv N Q ls σ0 pre H KS CS) (hB : ∀s,A6 s H=true→look B s = .top) (listed:Array Bool) {j s:Nat} {q:A} (hj:(H:List (Nat×A))[j]? = some (s,q)):look (mid listed KS H B) s=if listed.getD j false=true∧kd listed KS s=false then q else .top:=by
 rw [mid,E2]
 have ho:=Aoc (S:=Aek listed KS H) (k:=0) hH.kn hj
 simp only [Nat.zero_add] at ho
 rw [ho.1]
 rw [Afe hj] at ho
 rw [Afe hj]
 by_cases hc:listed.getD j false=true∧kd listed KS s=false
 ·have:(listed.getD j false && !kd listed KS s)=true:=by rw [hc.1,hc.2];rfl
  rw [if_pos this,if_pos hc,ho.2 this]
 have:¬(listed.getD j false && !kd listed KS s)=true:=by
  simp only [Bool.and_eq_true,Bool.not_eq_true'];exact hc
 rw [if_neg this,if_neg hc]
 exact hB s (M6 hj)
theorem M0 {listed:Array Bool} {s:Nat} (h:A6 s H=false):look (mid listed KS H B) s=look B s:=by
 rw [mid,E2,Ah8 h];rfl
theorem Aoy {i:Nat} {listed:Array Bool} {d:Nat} {r:A} {ks:List Nat} (hi0:n0≤i) (hH:Heads n0 P ops gv N Q ls σ0 pre H KS CS) (hT:Mx ops (Eu ops) 0 pre=true) (hi:(H:List (Nat×A))[i]? = some (d,r)) (hki:KS[i]? = some ks) (hsz:i<listed.size) (hun:listed.getD i false=false)
  (hcl : ∀k,listed.getD k false=true → ∀j∈(Eu ops).getD k [],listed.getD j false=true)
  (hroots:Ld H KS.flatten=true) (hold : ∀t,A6 t H=true → ∀s,(look B s).mapR (At t 0)=look B s) (hB : ∀s,A6 s H=true→look B s = .top)
  (hr:r.mapR (At d 0)=r) (hnd : ∀s,(look (mid listed KS H B) s).mapR (At d 0)=look (mid listed KS H B) s) :
  look (Au d r (Kl ks (mid listed KS H B)))=look (mid (listed.setIfInBounds i true) KS H B):=by
 have hsize : ∀ {k:Nat} {ks':List Nat},KS[k]? = some ks' → ∃x hide,pre[k]? = some (x,hide):=by
  intro k ks' hk
  have h1:=(List.getElem?_eq_some_iff.1 hk).1
  have h2:=hH.klen
  have h3:=hH.len
  have:k<pre.length:=by omega
  exact ⟨pre[k].1,pre[k].2,by simp [this]⟩
 have hd:look (mid listed KS H B) d = .top:=by
  rw [Gc hH hB listed hi,hun];simp
 have hno : ∀t∈ks,∀s,(look (mid listed KS H B) s).mapR (At t 0)=look (mid listed KS H B) s:=by
  intro t ht s
  obtain ⟨x,hide,hp⟩:=hsize hki
  obtain ⟨_,j,q,_,hj,_⟩:=Acu hH hki hp ht
  by_cases hk:A6 s H=true
  ·obtain ⟨j2,q2,hj2⟩:=G9 hk
   rw [Gc hH hB listed hj2]
   split
   ·refine Aa8 q2 fun r2 hr2=> ?_
    rintro rfl
    have h1:=List.all_eq_true.1 hroots _ (List.mem_of_getElem? hj2)
    have h2:=List.all_eq_true.1 h1 _ hr2
    have h3:r2∈KS.flatten:=List.mem_flatten.2 ⟨ks,List.mem_of_getElem? hki,ht⟩
    rw [List.contains_iff_mem.2 h3] at h2;cases h2
   ·rfl
  ·rw [M0 (by simpa using hk)]
   exact hold t (M6 hj) s
 have hdk:d∉ks:=by
  intro hdk
  obtain ⟨x,hide,hp⟩:=hsize hki
  have:=(Aoe hH hT hki hp hdk hi0 hi).1
  omega
 have hdn:kd listed KS d=false:=by
  cases hkd:kd listed KS d with
  | false=>rfl
  | true=>
    obtain ⟨k,ks',hks,hlk,hsk⟩:=Yk.1 hkd
    obtain ⟨x,hide,hp⟩:=hsize hks
    have:=hcl k hlk i (Aoe hH hT hks hp hsk hi0 hi).2
    rw [hun] at this;cases this
 have htops:=Aqn (σ:=mid listed KS H B) hno
 rw [B7,hr]
 funext s
 simp only [upF,Gy]
 by_cases hsd:s=d
 ·subst hsd
  rw [if_pos rfl,Gc hH hB _ hi,if_pos]
  refine ⟨by simp [hsz],?_⟩
  rw [Asl hki hsz,hdn]
  simpa using hdk
 rw [if_neg hsd,if_neg hsd,htops s]
 by_cases hk:A6 s H=true
 ·obtain ⟨j,q,hj⟩:=G9 hk
  have hji:i≠j:=by
   rintro rfl
   rw [hi] at hj;simp at hj;exact hsd hj.1.symm
  rw [Gc hH hB (listed.setIfInBounds i true) hj,getD_set_ne false hji,Asl hki hsz]
  by_cases hsk:ks.contains s=true
  ·rw [if_pos hsk,hsk]
   simp [A.mapR]
  have hsk':ks.contains s=false:=by simpa using hsk
  rw [if_neg hsk,hsk',Bool.or_false,hnd,Gc hH hB listed hj]
 have hk':A6 s H=false:=by simpa using hk
 have hsk:ks.contains s=false:=by
  cases hc:ks.contains s with
  | false=>rfl
  | true=>
    obtain ⟨x,hide,hp⟩:=hsize hki
    obtain ⟨_,j,q,_,hj,_⟩:=Acu hH hki hp (by simpa using hc)
    rw [M6 hj] at hk';cases hk'
 rw [hsk,if_neg (by simp),hnd,M0 hk',M0 hk']
theorem Ai2 (hlt : ∀(i:Nat) (o:Oper),ops[i]? = some o → ∀e∈o.after,Region.binds .any e=true→e.on<i) : ∀(i:Nat),∀j∈(Eu ops).getD i [],j<i:=by
 intro i
 induction i using Nat.strongRecOn with
 | _ i ih=>
   intro j hj
   cases ho:ops[i]? with
   | none=>
     have h1:(Eu ops)[i]? = none:=by
      have hl:(Eu ops).length=ops.size:=by unfold Eu;rw [Arv];simp
      rw [List.getElem?_eq_none_iff,hl]
      exact Array.getElem?_eq_none_iff.1 ho
     rw [List.getD_eq_getElem?_getD,h1] at hj
     cases hj
   | some o=>
     obtain ⟨e,he,hb,h⟩:=Ao7 (os:=ops.toList) (acc:=[]) (i:=i) (o:=o) (j:=j) (by simpa using ho) (by simpa [Eu] using hj) (by simpa using hlt i o ho)
     have h1:=hlt i o ho e he hb
     rcases h with rfl | h
     ·exact h1
     ·exact Nat.lt_trans (ih e.on h1 j (by simpa [Eu] using h)) h1
theorem Ag4 {T:List (List Nat)} (h:Y1 T pre=true) {i k s:Nat} {q:List Nat} {x y:G} {hx hy:List Nat} (hp:pre[i]? = some (x,hx)) (hs:Jv x.o hx=s::q) (hpk:pre[k]? = some (y,hy)) (hki:k≠i) :
  k∈T.getD i []∨i∈T.getD k []∨(hy.contains s=true∧Jv y.o hy=[]):=by
 unfold Y1 at h
 have h1:=List.all_eq_true.1 h i (List.mem_range.2 (List.getElem?_eq_some_iff.1 hp).1)
 rw [hp] at h1
 simp only [hs] at h1
 have h2:=List.all_eq_true.1 h1 k (List.mem_range.2 (List.getElem?_eq_some_iff.1 hpk).1)
 rw [hpk] at h2
 simp only [Bool.or_eq_true,Bool.and_eq_true,beq_iff_eq,List.isEmpty_iff] at h2
 rcases h2 with ((h2 | h2) | h2) | h2
 ·exact absurd h2 hki
 ·exact .inl (by simpa using h2)
 ·exact .inr (.inl (by simpa using h2))
 exact .inr (.inr h2)
abbrev bas (listed:Array Bool) (CS:List (List (Nat×V×Nat))) (σ0:St):St:=Aox (fun i=>listed.getD i false) 0 CS σ0
theorem Aiy (hH:Heads n0 P ops gv N Q ls σ0 pre H KS CS) {c:Nat×V×Nat} (hc:c∈CS.flatten) {s:Nat} (hs:A6 s H=true):c.1≠s:=by
 rintro rfl
 obtain ⟨j,q,hj⟩:=G9 hs
 have h1:=hH.top _ (List.mem_of_getElem? hj)
 obtain ⟨U,hU⟩:=hH.cval c hc
 rw [hU] at h1;cases h1
theorem Iv (hH:Heads n0 P ops gv N Q ls σ0 pre H KS CS) (listed:Array Bool):look (bas listed CS σ0)=bLL (fun i=>listed.getD i false) 0 CS (look σ0):=Amu hH.cval
theorem Yp (hH:Heads n0 P ops gv N Q ls σ0 pre H KS CS) (listed:Array Bool) : ∀s,A6 s H=true→look (bas listed CS σ0) s = .top:=by
 intro s hs
 rw [Iv hH]
 obtain ⟨j,q,hj⟩:=G9 hs
 exact Atp (hH.top _ (List.mem_of_getElem? hj)) fun c hc=>Aiy hH hc hs
theorem Akj (hH:Heads n0 P ops gv N Q ls σ0 pre H KS CS) (hold : ∀t,A6 t H=true → ∀s,(look σ0 s).mapR (At t 0)=look σ0 s) (listed:Array Bool) : ∀t,A6 t H=true → ∀s,(look (bas listed CS σ0) s).mapR (At t 0)=look (bas listed CS σ0) s:=by
 intro t ht s
 rw [Iv hH]
 exact As9 (hold t ht) s
theorem Apa {n i:Nat} {listed:Array Bool} {x:G} {hide:List Nat} (hH:Heads n0 P ops gv N Q ls σ0 pre H KS CS) (hLT:Y1 (Eu ops) pre=true) (hpl:pre.length=n) (hl:H.length=n)
  (hlt : ∀(i:Nat) (o:Oper),ops[i]? = some o → ∀e∈o.after,Region.binds .any e=true→e.on<i)
  (hp:pre[i]? = some (x,hide)) (hb : ∀j∈(Eu ops).getD i [],listed.getD j false=true) (hcl : ∀k,listed.getD k false=true → ∀j∈(Eu ops).getD k [],listed.getD j false=true) (hui:listed.getD i false=false) :
  ∀s,look (Ki ls (Kj x.o hide) (CS.take i).flatten σ0) s = .top∨look (bas listed CS σ0) s=look (Ki ls (Kj x.o hide) (CS.take i).flatten σ0) s:=by
 intro s
 have hsub : ∀c∈(CS.take i).flatten,c∈CS.flatten:=by
  intro c hc
  obtain ⟨l,h1,h2⟩:=List.mem_flatten.1 hc
  exact List.mem_flatten.2 ⟨l,List.mem_of_mem_take h1,h2⟩
 have hv : ∀c∈((CS.take i).flatten.filter fun c => !((Kj x.o hide).filter (ls.contains ·)).contains c.1),∃U,look (V4 ((Kj x.o hide).filter (ls.contains ·)) σ0) c.1 = .val U:=by
  intro c hc
  obtain ⟨h1,h2⟩:=List.mem_filter.1 hc
  obtain ⟨U,hU⟩:=hH.cval c (hsub c h1)
  refine ⟨U,?_⟩
  rw [Rd,hU]
  have h3:((Kj x.o hide).filter (ls.contains ·)).contains c.1=false:=by
   cases hcc:((Kj x.o hide).filter (ls.contains ·)).contains c.1 with
   | false=>rfl
   | true=>rw [hcc] at h2;cases h2
  rw [h3];simp [A.roots]
 have key:=Cl.base (h:=(Kj x.o hide).filter (ls.contains ·)) (S:=fun i=>listed.getD i false) (i:=i) (CS:=CS) (k:=0) (Cl.hide _ σ0) (by
  intro j cs hj c hc hh
  simp only [Nat.zero_add]
  have hjl:=(List.getElem?_eq_some_iff.1 hj).1
  have hjp0:j<pre.length:=by have:=hH.clen;omega
  obtain ⟨y,hy,hjp⟩ : ∃y hy,pre[j]? = some (y,hy):=⟨_,_,by simp [hjp0];rfl⟩
  obtain ⟨k1,q,k2⟩:=hH.cin j cs c y hy hj hc hjp
  by_cases hji:i=j
  ·subst hji
   rw [hui];simp
  rcases Ag4 hLT hjp k2 hp hji with h1 | h1 | ⟨h1,h2e⟩
  ·have hij:=Ai2 hlt j i h1
   constructor
   ·intro h2
    have:=hcl j h2 i h1
    rw [hui] at this;cases this
   ·intro h2;omega
  ·have hji2:=Ai2 hlt i j h1
   exact ⟨fun _=>hji2,fun _=>hb j h1⟩
  ·have hho:Kj x.o hide=hide:=by unfold Kj;rw [h2e]
   have:((Kj x.o hide).filter (ls.contains ·)).contains c.1=true:=by
    rw [hho]
    simp only [List.contains_iff_mem,List.mem_filter] at h1 k1 ⊢
    exact ⟨h1,by simpa using k1⟩
   rw [this] at hh;cases hh)
 rw [Nat.sub_zero] at key
 unfold Ki
 rw [Hj hv,Iv hH]
 exact (key s).imp id fun h=>h.1
theorem Amb (hH:Heads n0 P ops gv N Q ls σ0 pre H KS CS) {i:Nat} {hide:List Nat} : ∀s,A6 s H=true→look (Ki ls hide (CS.take i).flatten σ0) s = .top:=by
 intro s hs
 have hsub : ∀c∈(CS.take i).flatten,c∈CS.flatten:=by
  intro c hc
  obtain ⟨l,h1,h2⟩:=List.mem_flatten.1 hc
  exact List.mem_flatten.2 ⟨l,List.mem_of_mem_take h1,h2⟩
 have hv : ∀c∈((CS.take i).flatten.filter fun c => !(hide.filter (ls.contains ·)).contains c.1),∃U,look (V4 (hide.filter (ls.contains ·)) σ0) c.1 = .val U:=by
  intro c hc
  obtain ⟨h1,h2⟩:=List.mem_filter.1 hc
  obtain ⟨U,hU⟩:=hH.cval c (hsub c h1)
  refine ⟨U,?_⟩
  rw [Rd,hU]
  have h3:(hide.filter (ls.contains ·)).contains c.1=false:=by
   cases hcc:(hide.filter (ls.contains ·)).contains c.1 with
   | false=>rfl
   | true=>rw [hcc] at h2;cases h2
  rw [h3];simp [A.roots]
 unfold Ki
 rw [Hj hv]
 obtain ⟨j,q,hj⟩:=G9 hs
 refine Ag9 ?_ fun c hc=>Aiy hH (hsub c (List.mem_filter.1 hc).1) hs
 rw [Rd,hH.top _ (List.mem_of_getElem? hj)]
 simp
theorem Amc {n i:Nat} {listed:Array Bool} {d:Nat} {r:A} {ks:List Nat} {cs:List (Nat×V×Nat)} (hi0:n0≤i) (hH:Heads n0 P ops gv N Q ls σ0 pre H KS CS) (hT:Mx ops (Eu ops) 0 pre=true) (hLT:Y1 (Eu ops) pre=true) (hpl:pre.length=n) (hl:H.length=n)
  (hlt : ∀(i:Nat) (o:Oper),ops[i]? = some o → ∀e∈o.after,Region.binds .any e=true→e.on<i)
  (hi:(H:List (Nat×A))[i]? = some (d,r)) (hki:KS[i]? = some ks) (hci:CS[i]? = some cs) (hsz:i<listed.size) (hun:listed.getD i false=false)
  (hcl : ∀k,listed.getD k false=true → ∀j∈(Eu ops).getD k [],listed.getD j false=true)
  (hroots:Ld H KS.flatten=true) (hroots2:Aa6 H CS.flatten=true) (hold : ∀t,A6 t H=true → ∀s,(look σ0 s).mapR (At t 0)=look σ0 s)
  (hr:r.mapR (At d 0)=r) {w O vals fp} (hs:Sim w O (look (mid listed KS H (bas listed CS σ0))) vals fp) :
  look (Au d r (Kl ks (Ff cs (mid listed KS H (bas listed CS σ0)))))=look (mid (listed.setIfInBounds i true) KS H (bas (listed.setIfInBounds i true) CS σ0)):=by
 have hB:=Yp hH listed
 have hB2:=Yp hH (listed.setIfInBounds i true)
 have hd:look (mid listed KS H (bas listed CS σ0)) d = .top:=by
  rw [Gc hH hB listed hi,hun];simp
 have hset : ∀j,j≠i→(listed.setIfInBounds i true).getD j false=listed.getD j false:=fun j hj=>getD_set_ne false (Ne.symm hj)
 by_cases hcsn:cs=[]
 ·subst hcsn
  have e:look (bas (listed.setIfInBounds i true) CS σ0)=look (bas listed CS σ0):=by
   rw [Iv hH,Iv hH]
   refine Apx fun j cs' hj hc=> ?_
   rw [Nat.zero_add]
   by_cases hji:j=i
   ·subst hji
    rw [hci] at hj;cases hj
    exact absurd rfl hc
   ·exact hset j hji
  have:=Aoy (B:=bas listed CS σ0) hi0 hH hT hi hki hsz hun hcl hroots (Akj hH hold listed) hB hr (hs.noref hd)
  show look (Au d r (Kl ks (mid listed KS H (bas listed CS σ0))))=_
  rw [this]
  funext s
  rw [mid,mid,E2,E2,e]
 have hkn:ks=[]:=(hH.cks i ks cs hki hci).resolve_left hcsn
 subst hkn
 have hcf : ∀c∈cs,c∈CS.flatten:=fun c hc=>List.mem_flatten.2 ⟨cs,List.mem_of_getElem? hci,hc⟩
 have hvb : ∀c∈cs,∃U,look (bas listed CS σ0) c.1 = .val U:=by
  intro c hc
  rw [Iv hH]
  obtain ⟨U,hU⟩:=hH.cval c (hcf c hc)
  exact Au5 hU
 have hvm : ∀c∈cs,∃U,look (mid listed KS H (bas listed CS σ0)) c.1 = .val U:=by
  intro c hc
  have:A6 c.1 H=false:=by
   cases hk:A6 c.1 H with
   | false=>rfl
   | true=>exact absurd rfl (Aiy hH (hcf c hc) hk)
  rw [M0 this]
  exact hvb c hc
 have e1:look (Ff cs (bas listed CS σ0))=look (bas (listed.setIfInBounds i true) CS σ0):=by
  rw [Hj hvb,Iv hH,Iv hH]
  refine (Ava (Nat.zero_le i) (by simpa using hci) hun (by simp [hsz]) hset ?_).symm
  intro j cs' hj hc hij
  rw [Nat.zero_add] at hij ⊢
  cases hlj:listed.getD j false with
  | false=>rfl
  | true=>
    have hjl:=(List.getElem?_eq_some_iff.1 hj).1
    have hjp0:j<pre.length:=by have:=hH.clen;omega
    have hip0:i<pre.length:=by have:=(List.getElem?_eq_some_iff.1 hci).1;have:=hH.clen;omega
    obtain ⟨y,hy,hjp⟩ : ∃y hy,pre[j]? = some (y,hy):=⟨_,_,by simp [hjp0];rfl⟩
    obtain ⟨z,hz,hip⟩ : ∃z hz,pre[i]? = some (z,hz):=⟨_,_,by simp [hip0];rfl⟩
    obtain ⟨c',hc'⟩:=List.exists_mem_of_ne_nil _ hc
    obtain ⟨_,q,k2⟩:=hH.cin j cs' c' y hy hj hc' hjp
    rcases Ag4 hLT hjp k2 hip (by omega) with h1 | h1 | ⟨_,h1⟩
    ·have:=hcl j hlj i h1
     rw [hun] at this;cases this
    ·have:=Ai2 hlt i j h1
     omega
    ·obtain ⟨c0,hc0⟩:=List.exists_mem_of_ne_nil _ hcsn
     obtain ⟨_,q',k3⟩:=hH.cin i cs c0 _ _ hci hc0 hip
     rw [h1] at k3;cases k3
 have hmid:look (Ff cs (mid listed KS H (bas listed CS σ0)))=look (mid listed KS H (Ff cs (bas listed CS σ0))):=by
  have hB3 : ∀s,A6 s H=true→look (Ff cs (bas listed CS σ0)) s = .top:=fun s hs=>by rw [e1];exact hB2 s hs
  rw [Hj hvm]
  funext s
  by_cases hk:A6 s H=true
  ·obtain ⟨j,q,hj⟩:=G9 hk
   rw [Ap0,Gc hH hB listed hj,Gc hH hB3 listed hj]
   intro c hc
   refine ⟨Aiy hH (hcf c hc) hk,?_⟩
   rw [Gc hH hB listed hj]
   split
   ·exact List.all_eq_true.1 (List.all_eq_true.1 hroots2 _ (List.mem_of_getElem? hj)) c (hcf c hc)
   ·rfl
  ·have hk':A6 s H=false:=by simpa using hk
   rw [M0 hk',Hj hvb]
   exact Arr (M0 hk')
 have hold' : ∀t,A6 t H=true → ∀s,(look (Ff cs (bas listed CS σ0)) s).mapR (At t 0)=look (Ff cs (bas listed CS σ0)) s:=by
  intro t ht s
  rw [e1]
  exact Akj hH hold _ t ht s
 have hB3 : ∀s,A6 s H=true→look (Ff cs (bas listed CS σ0)) s = .top:=fun s hs=>by rw [e1];exact hB2 s hs
 have hnd : ∀s,(look (mid listed KS H (Ff cs (bas listed CS σ0))) s).mapR (At d 0)=look (mid listed KS H (Ff cs (bas listed CS σ0))) s:=by
  intro s
  by_cases hk:A6 s H=true
  ·obtain ⟨j,q,hj⟩:=G9 hk
   rw [Gc hH hB3 listed hj,←Gc hH hB listed hj]
   exact hs.noref hd s
  ·have hk':A6 s H=false:=by simpa using hk
   rw [M0 hk']
   exact hold' d (M6 hi) s
 have h5:=Aoy (B:=Ff cs (bas listed CS σ0)) (ks:=[]) hi0 hH hT hi hki hsz hun hcl hroots hold' hB3 hr hnd
 have h6:look (Au d r (Kl [] (Ff cs (mid listed KS H (bas listed CS σ0)))))=look (Au d r (Kl [] (mid listed KS H (Ff cs (bas listed CS σ0))))):=by
  simp only [Kl]
  rw [B7,B7,hmid]
 rw [h6,h5]
 funext s
 rw [mid,mid,E2,E2,e1]
def cnt (n:Nat) (listed:Array Bool):Nat:=((List.range n).filter fun i => !listed.getD i true).length
theorem Ajr {n i:Nat} {listed:Array Bool} (hi:i<n) (hsz:i<listed.size) (hun:listed.getD i true=false):cnt n listed=cnt n (listed.setIfInBounds i true)+1:=by
 unfold cnt
 have h1 : ∀(l:List Nat),l.Nodup→i∈l→(l.filter fun j => !listed.getD j true).length=(l.filter fun j => !(listed.setIfInBounds i true).getD j true).length+1:=by
  intro l
  induction l with
  | nil=>intro _ h;cases h
  | cons x r ih=>
    intro hn hm
    have hn':=List.nodup_cons.1 hn
    by_cases hx:x=i
    ·subst hx
     have h2:(listed.setIfInBounds x true).getD x true=true:=by simp [hsz]
     have h3:(r.filter fun j => !listed.getD j true)=(r.filter fun j => !(listed.setIfInBounds x true).getD j true):=by
      apply List.filter_congr
      intro j hj
      rw [getD_set_ne true (by rintro rfl;exact hn'.1 hj)]
     rw [List.filter_cons_of_pos (by simp only [hun];rfl),List.filter_cons_of_neg (by simp only [h2];simp),h3]
     rfl
    ·have hm':i∈r:=by cases hm with
      | head=>exact absurd rfl hx
      | tail _ h=>exact h
     have:=ih hn'.2 hm'
     have h2:(listed.setIfInBounds i true).getD x true=listed.getD x true:=getD_set_ne true (Ne.symm hx)
     by_cases hp:listed.getD x true=true
     ·rw [List.filter_cons_of_neg (by simp only [hp];simp),List.filter_cons_of_neg (by simp only [h2,hp];simp)];exact this
     ·have hp':listed.getD x true=false:=by simpa using hp
      rw [List.filter_cons_of_pos (by simp only [hp'];rfl),List.filter_cons_of_pos (by simp only [h2,hp'];rfl),List.length_cons,List.length_cons,this]
 exact h1 _ List.nodup_range (List.mem_range.2 hi)
theorem Aqp (v:Value) (k:Nat):(∃u,Instr.extract v k=pure u) ∨ ∃s,Instr.extract v k=stuck s:=by
 unfold Instr.extract
 split
 ·split
  ·exact .inl ⟨_,rfl⟩
  exact .inr ⟨_,rfl⟩
 exact .inr ⟨_,rfl⟩
theorem Aiv {i:Nat} {o:Oper} {x:Operand} {k:Nat} (hi:ops[i]? = some o) (hop:o.op = .extract x k) (hg:o.guard=none) {next:Act→World→Prop} {a:Act} {w:World}
  (h:wpOp P ops Q i next a w) : ∃v,Yields P ops o v a∧next (a.put o.dst v) w:=by
 unfold wpOp at h
 rw [hi] at h
 have hw:Region.wanted o (yielded ops a.tmps)=true:=by simp [Region.wanted,hg]
 simp only [hw,if_true] at h
 have he:execOp a.eval o=Next.value <$> Instr.extract (a.eval x) k:=by simp [execOp,hop]
 rcases Aqp (a.eval x) k with ⟨u,hu⟩ | ⟨s,hu⟩
 ·rw [hu] at he
  have hr : ∀w,(execOp a.eval o).run P w = .ok (.value u) w:=fun w=>by rw [he];rfl
  refine ⟨u,.inl ⟨hw,hr⟩,?_⟩
  rcases h with h | h
  ·unfold Oper.wp at h
   rw [hr w] at h
   exact h
  exfalso
  have h1:noRoomEvent∈(execOp a.eval o).events P w #[]:=h.1.1
  have h2:(execOp a.eval o).events P w #[] = #[]:=by rw [he];rfl
  rw [h2] at h1
  simp at h1
 rw [hu] at he
 exfalso
 rcases h with h | h
 ·unfold Oper.wp at h
  rw [he] at h
  exact h
 have h1:noRoomEvent∈(execOp a.eval o).events P w #[]:=h.1.1
 have h2:(execOp a.eval o).events P w #[] = #[]:=by rw [he];rfl
 rw [h2] at h1
 simp at h1
theorem Alt {n:Nat} {listed:Array Bool} (hs:Ate ops n=true) (hc:Region.chainB .any ops n=true) (hn:n<ops.size) (inv:HeadInv .any ops n listed)
  (hlt : ∀(i:Nat) (o:Oper),ops[i]? = some o → ∀e∈o.after,Region.binds .any e=true→e.on<i)
  (hno:¬ ∃i,i<n∧Auj ops i=true∧i∈Region.ready .any ops listed) {k:Nat} (hk:k<n) (hku:listed.getD k true=false) : ∀t,n≤t→t∉Region.ready .any ops listed:=by
 intro t ht hr
 obtain ⟨_,ot,hot,hall⟩:=mem_ready.1 hr
 have htlt:t<ops.size:=(Array.getElem?_eq_some_iff.1 hot).1
 by_cases htn:t=n
 ·subst htn
  have hb:=Gr inv hlt t ot hot hall
  have h1:=List.all_eq_true.1 hs k (List.mem_range.2 hk)
  simp only [Bool.or_eq_true,Bool.and_eq_true] at h1
  rcases h1 with h1 | ⟨h1,h2⟩
  ·have:=hb k (by simpa using h1)
   rw [getD_both hku] at this;cases this
  cases hok:ops[k]? with
  | none=>rw [hok] at h2;cases h2
  | some o=>
    rw [hok] at h2
    refine hno ⟨k,hk,h1,mem_ready.2 ⟨hku,o,hok,fun e he hbd=> ?_⟩⟩
    have h3:=List.all_eq_true.1 h2 e (by simpa using he)
    simp only [Bool.or_eq_true,Bool.not_eq_true'] at h3
    rcases h3 with h3 | h3
    ·rw [hbd] at h3;cases h3
    ·exact hb e.on (by simpa using h3)
 have h1:=List.all_eq_true.1 hc t (List.mem_range.2 htlt)
 simp only [Bool.or_eq_true,decide_eq_true_eq] at h1
 rcases h1 with h1 | h1
 ·omega
 obtain ⟨o',ho',e,he,hb,hon⟩:=Region.waitsFor_spec h1
 have:o'=ot:=Option.some.inj (ho'.symm.trans hot)
 subst this
 have h2:=hall e he hb
 rw [hon,getD_both (inv.tail (t-1) (by omega) (by omega))] at h2
 cases h2
theorem Ap1 {n:Nat} (hH:Heads n0 P ops gv N Q ls σ0 pre H KS CS) (hKT:Acy ops (Eu ops) pre=true) (hLT:Y1 (Eu ops) pre=true) (hroots:Ld H KS.flatten=true) (hroots2:Aa6 H CS.flatten=true) (hold : ∀t,A6 t H=true → ∀s,(look σ0 s).mapR (At t 0)=look σ0 s) (hl:H.length=n) (hpl:pre.length=n) (hT:Mx ops (Eu ops) 0 pre=true)
  (hlt : ∀(i:Nat) (o:Oper),ops[i]? = some o → ∀e∈o.after,Region.binds .any e=true→e.on<i)
  (hn:n≤ops.size) (htail:n<ops.size→Ate ops n=true∧Region.chainB .any ops n=true) (hQp : ∀c a w,¬Q (.panic c) a w) (g:Nat) :
  ∀(m:Nat) (listed:Array Bool) (a:Act) (w:World) O vals fp,cnt n listed=m→(∀i,i<n0→listed.getD i false=true)→HeadInv .any ops n listed→Ok (mid listed KS H (bas listed CS σ0)) a w O gv N vals fp →
    (∀listed' a' w' O' vals' fp',HeadInv .any ops n listed'→(∀i,i<n→listed'.getD i false=true)→Ok (Du KS.flatten H++Ff CS.flatten σ0) a' w' O' gv N vals' fp'→Mv w O (Sof fp) w' O' (Sof fp')→wpAny P .any ops Q g listed' a' w') →
    wpAny P .any ops Q (m+g) listed a w:=by
 intro m
 induction m with
 | zero=>
   intro listed a w O vals fp hc hl0 inv ho hf
   have hall : ∀i,i<n→listed.getD i false=true:=by
    intro i hi
    cases hu:listed.getD i false with
    | true=>rfl
    | false=>
      have h1:listed.getD i true=false:=getD_in (by rw [inv.size];omega) hu
      have h2:i∈(List.range n).filter fun i => !listed.getD i true:=List.mem_filter.2 ⟨List.mem_range.2 hi,by simp only [h1];rfl⟩
      unfold cnt at hc
      rw [List.length_eq_zero_iff] at hc
      rw [hc] at h2;cases h2
   rw [Nat.zero_add]
   refine hf listed a w O vals fp inv hall (ho.congr ?_) (Mv.refl _ _ _)
   have hkd : ∀s,kd listed KS s=KS.flatten.contains s:=by
    intro s
    rw [Bool.eq_iff_iff,Yk]
    simp only [List.contains_iff_mem,List.mem_flatten]
    constructor
    ·rintro ⟨i,ks,hk,_,hs⟩;exact ⟨ks,List.mem_of_getElem? hk,hs⟩
    ·rintro ⟨ks,hk,hs⟩
     obtain ⟨i,hi⟩:=List.mem_iff_getElem?.1 hk
     have h1:=(List.getElem?_eq_some_iff.1 hi).1
     exact ⟨i,ks,hi,hall i (by have:=hH.klen;omega),hs⟩
   have hbe:look (Ff CS.flatten σ0)=look (bas listed CS σ0):=by
    rw [Hj hH.cval,Iv hH]
    refine (Aul fun j hj=> ?_).symm
    rw [Nat.zero_add]
    exact hall j (by have:=hH.clen;omega)
   funext s
   rw [E2 (Du KS.flatten H),Uc]
   by_cases hk:A6 s H=true
   ·obtain ⟨j,q,hj⟩:=G9 hk
    rw [Gc hH (Yp hH listed) listed hj,hk,hkd]
    have hlj:=hall j (by have:=(List.getElem?_eq_some_iff.1 hj).1;omega)
    cases hc:KS.flatten.contains s with
    | true=>
      simp only [hlj,Bool.true_eq_false,and_false,if_false,Bool.not_true,Bool.and_false,Bool.false_eq_true]
      rw [hbe];exact (Yp hH listed s hk).symm
    | false=>
      simp only [hlj,and_self,if_true,Bool.not_false,Bool.and_true]
      rw [Wr _ _ _ hc]
      exact (Ao8 hH.kn hj).symm
   ·have hk':A6 s H=false:=by simpa using hk
    rw [M0 hk',hk',hbe];simp
 | succ m ih=>
   intro listed a w O vals fp hc hl0 inv ho hf
   have hex : ∃i,i<n∧listed.getD i true=false:=by
    unfold cnt at hc
    match hm:(List.range n).filter fun i => !listed.getD i true with
    | []=>rw [hm] at hc;simp at hc
    | i::r=>
      have h2:i∈(List.range n).filter fun i => !listed.getD i true:=by rw [hm];simp
      obtain ⟨h3,h4⟩:=List.mem_filter.1 h2
      exact ⟨i,List.mem_range.1 h3,by simpa using h4⟩
   have hmin : ∃i,i<n∧listed.getD i true=false ∧ ∀j,j<i→listed.getD j true≠false:=by
    obtain ⟨i,h1,h2⟩:=hex
    have : ∀k i,i≤k→i<n→listed.getD i true=false → ∃i,i<n∧listed.getD i true=false ∧ ∀j,j<i→listed.getD j true≠false:=by
     intro k
     induction k with
     | zero=>intro i hk hi hu;exact ⟨i,hi,hu,fun j hj=>by omega⟩
     | succ k ih=>
       intro i hk hi hu
       by_cases h : ∃j,j<i∧listed.getD j true=false
       ·obtain ⟨j,hj,hju⟩:=h;exact ih j (by omega) (by omega) hju
       ·exact ⟨i,hi,hu,fun j hj hju=>h ⟨j,hj,hju⟩⟩
    exact this i i (Nat.le_refl _) h1 h2
   have hcl : ∀k,listed.getD k false=true → ∀j∈(Eu ops).getD k [],listed.getD j false=true:=by
    intro k hk j hj
    by_cases hks:k<ops.size
    ·exact Gr inv hlt k ops[k] (by simp [hks]) (fun e he hb=>inv.closed k ops[k] (by simp [hks]) hk e he hb) j hj
    ·have:listed.getD k false=false:=by
      have hz:listed.size=ops.size:=inv.size
      simp [Array.getD,show ¬k<listed.size by omega]
     rw [this] at hk;cases hk
   rw [show m+1+g=(m+g)+1 by omega]
   by_cases hfl : ∃i,i<n∧Auj ops i=true∧i∈Region.ready .any ops listed
   ·obtain ⟨i,hin,hf1,hr⟩:=hfl
    obtain ⟨hun,o,hoi,hall⟩:=mem_ready.1 hr
    unfold Auj at hf1
    rw [hoi] at hf1
    simp only [Bool.and_eq_true] at hf1
    obtain ⟨⟨⟨hop,hg⟩,hns⟩,hfree⟩:=hf1
    have hop' : ∃x k,o.op = .extract x k:=by
     split at hop
     ·exact ⟨_,_,by assumption⟩
     ·cases hop
    obtain ⟨x',k',hop'⟩:=hop'
    have hg':o.guard=none:=by simpa using hg
    have hHi:(H:List (Nat×A))[i]? = some (H:List (Nat×A))[i]:=by simp [hl,hin]
    obtain ⟨d,r,hdr⟩ : ∃d r,(H:List (Nat×A))[i]? = some (d,r):=⟨_,_,hHi⟩
    obtain ⟨x,hide,hp⟩ : ∃x hide,pre[i]? = some (x,hide):=⟨_,_,by simp [hpl,hin];rfl⟩
    obtain ⟨ks,hki⟩ : ∃ks,KS[i]? = some ks:=⟨KS[i]'(by have:=hH.klen;omega),by simp [show i<KS.length by have:=hH.klen;omega]⟩
    obtain ⟨cs,hci⟩ : ∃cs,CS[i]? = some cs:=⟨CS[i]'(by have:=hH.clen;omega),by simp [show i<CS.length by have:=hH.clen;omega]⟩
    have hi0:n0≤i:=by
     rcases Nat.lt_or_ge i n0 with h | h
     ·have:=hl0 i h;rw [getD_both hun] at this;cases this
     ·exact h
    have hwp:=hH.ok i d r ks cs x hide hi0 hdr hki hci hp (mid listed KS H (bas listed CS σ0)) a w O vals fp
     (fun a' w' => ∃O' vals' fp',Ok (Au d r (Kl ks (Ff cs (mid listed KS H (bas listed CS σ0))))) a' w' O' gv N vals' fp'∧Mv w O (Sof fp) w' O' (Sof fp'))
     (As7 (n:=n) hH hT hKT hpl hp hdr (Gr inv hlt i o hoi hall) hcl (getD_both hun) (Amb hH) (Apa hH hLT hpl hl hlt hp (Gr inv hlt i o hoi hall) hcl (getD_both hun))) ho
     (fun a' w' O' vals' fp' h1 h2=>⟨O',vals',fp',h1,h2⟩)
    obtain ⟨v,hy,O',vals',fp',ho',hm'⟩:=Aiv hoi hop' hg' hwp
    have hput:=Amc hi0 hH hT hLT hpl hl hlt hdr hki hci (by rw [inv.size];omega) (getD_both hun) hcl hroots hroots2 hold (hH.idem _ (List.mem_of_getElem? hdr)) ho.sim
    refine wpAny_first hoi (Region.noSelect_spec hns) (fun c a w hq=>absurd hq (hQp _ _ _)) (m+g) listed a w
     (fun j oj hj hne hju hno=>by
      have h1:=List.all_eq_true.1 hfree j (List.mem_range.2 (Array.getElem?_eq_some_iff.1 hj).1)
      simp only [hj,Bool.or_eq_true,beq_iff_eq] at h1
      rcases h1 with (h1 | h1) | h1 | h1
      ·exact absurd h1 hne
      ·have:=Gr inv hlt i o hoi hall j (by simpa using h1)
       rw [getD_both hju] at this;cases this
      ·obtain ⟨e,he,hb⟩:=Array.any_eq_true'.1 h1
       simp only [Bool.and_eq_true,beq_iff_eq] at hb
       exact absurd hb.2 (hno e he hb.1)
      ·exact h1) hr hy ?_
    refine ih _ (a.put o.dst v) w O' vals' fp' ?_ (fun k hk=>getD_set_true (hl0 k hk)) (inv.set hr hin) (ho'.congr hput) fun l2 a2 w2 O2 vals2 fp2 h1 h2 h3 h4=>hf l2 a2 w2 O2 vals2 fp2 h1 h2 h3 (hm'.trans h4)
    have:=Ajr hin (by rw [inv.size];omega) hun
    omega
   refine ⟨fun h0=> ?_,?_⟩
   ·obtain ⟨i,hi,hu,hj⟩:=hmin
    have his:i<ops.size:=by omega
    have:i∈Region.ready .any ops listed:=mem_ready.2 ⟨hu,ops[i],by simp [his],fun e he hb=>by
     have h1:=hlt i ops[i] (by simp [his]) e he hb
     have h2:=hj _ h1
     cases hh:listed.getD e.on false with
     | true=>rfl
     | false=>exact absurd (getD_in (by rw [inv.size];omega) hh) h2⟩
    rw [h0] at this;cases this
   ·intro i hi
    obtain ⟨hun,o,hoi,hall⟩:=mem_ready.1 hi
    have his:i<ops.size:=(Array.getElem?_eq_some_iff.1 hoi).1
    have hin:i<n:=by
     rcases Nat.lt_or_ge i n with h | h
     ·exact h
     ·obtain ⟨k,hk,hku⟩:=hex
      have ht:=htail (by omega)
      exact absurd hi (Alt ht.1 ht.2 (by omega) inv hlt hfl hk hku i h)
    have hHi:(H:List (Nat×A))[i]? = some (H:List (Nat×A))[i]:=by simp [hl,hin]
    obtain ⟨d,r,hdr⟩ : ∃d r,(H:List (Nat×A))[i]? = some (d,r):=⟨_,_,hHi⟩
    obtain ⟨x,hide,hp⟩ : ∃x hide,pre[i]? = some (x,hide):=⟨_,_,by simp [hpl,hin];rfl⟩
    obtain ⟨ks,hki⟩ : ∃ks,KS[i]? = some ks:=⟨KS[i]'(by have:=hH.klen;omega),by simp [show i<KS.length by have:=hH.klen;omega]⟩
    obtain ⟨cs,hci⟩ : ∃cs,CS[i]? = some cs:=⟨CS[i]'(by have:=hH.clen;omega),by simp [show i<CS.length by have:=hH.clen;omega]⟩
    have hi0:n0≤i:=by
     rcases Nat.lt_or_ge i n0 with h | h
     ·have:=hl0 i h;rw [getD_both hun] at this;cases this
     ·exact h
    refine hH.ok i d r ks cs x hide hi0 hdr hki hci hp (mid listed KS H (bas listed CS σ0)) a w O vals fp _ (As7 (n:=n) hH hT hKT hpl hp hdr (Gr inv hlt i o hoi hall) hcl (getD_both hun) (Amb hH) (Apa hH hLT hpl hl hlt hp (Gr inv hlt i o hoi hall) hcl (getD_both hun))) ho ?_
    intro a' w' O' vals' fp' ho' hm'
    have hput:=Amc hi0 hH hT hLT hpl hl hlt hdr hki hci (by rw [inv.size];omega) (getD_both hun) hcl hroots hroots2 hold (hH.idem _ (List.mem_of_getElem? hdr)) ho.sim
    refine ih _ a' w' O' vals' fp' ?_ (fun k hk=>getD_set_true (hl0 k hk)) (inv.set hi hin) (ho'.congr hput) fun l2 a2 w2 O2 vals2 fp2 h1 h2 h3 h4=>hf l2 a2 w2 O2 vals2 fp2 h1 h2 h3 (hm'.trans h4)
    have:=Ajr hin (by rw [inv.size];omega) hun
    omega
theorem M7 (size:Nat) : ∀(m:Nat),(Bd size m).size=size ∧ ∀j,(Bd size m).getD j false=(decide (j<m)&&decide (j<size)):=by
 have hfold : ∀(m:Nat) (l:Array Bool),((List.range m).foldl (fun l i=>l.setIfInBounds i true) l).size=l.size ∧ ∀j,((List.range m).foldl (fun l i=>l.setIfInBounds i true) l).getD j false=((decide (j<m)&&decide (j<l.size)) || l.getD j false):=by
  intro m
  induction m with
  | zero=>intro l;simp
  | succ m ih=>
    intro l
    rw [List.range_succ,List.foldl_append]
    simp only [List.foldl_cons,List.foldl_nil]
    obtain ⟨h1,h2⟩:=ih l
    refine ⟨by simp [h1],fun j=> ?_⟩
    by_cases hj:m=j
    ·subst hj
     by_cases hs:m<l.size
     ·have:m<((List.range m).foldl (fun l i=>l.setIfInBounds i true) l).size:=by rw [h1];exact hs
      simp [Array.getD,this,hs]
     ·have h3:¬m<((List.range m).foldl (fun l i=>l.setIfInBounds i true) l).size:=by rw [h1];exact hs
      simp [Array.getD,h3,hs]
    ·rw [getD_set_ne false hj,h2]
     congr 2
     simp;omega
 intro m
 obtain ⟨f1,f2⟩:=hfold m (Array.replicate size false)
 refine ⟨by unfold Bd;rw [f1];simp,fun j=> ?_⟩
 unfold Bd
 rw [f2,getD_replicate_false];simp
theorem Apl (size m:Nat):(Bd size m).setIfInBounds m true=Bd size (m+1):=by
 unfold Bd
 rw [List.range_succ,List.foldl_append];rfl
theorem Axa {n m:Nat} (hm:m≤n) (_hn:n≤ops.size) (hlt : ∀(i:Nat) (o:Oper),ops[i]? = some o → ∀e∈o.after,Region.binds .any e=true→e.on<i):HeadInv .any ops n (Bd ops.size m):=by
 obtain ⟨h1,h2⟩:=M7 ops.size m
 refine ⟨h1,fun j oj hj hl e he hb=> ?_,fun t ht hts=> ?_⟩
 ·rw [h2] at hl ⊢
  simp only [Bool.and_eq_true,decide_eq_true_eq] at hl ⊢
  have:=hlt j oj hj e he hb
  omega
 refine getD_in (by rw [h1];exact hts) ?_
 rw [h2]
 simp;omega
theorem Axb {size n:Nat} (hn:n≤size) : ∀m,m≤n→cnt n (Bd size m)+m=n:=by
 intro m
 induction m with
 | zero=>
   intro _
   unfold cnt
   rw [List.filter_eq_self.2]
   ·simp
   ·intro i hi
    have:=List.mem_range.1 hi
    have h3:=(M7 size 0).2 i
    have:(Bd size 0).getD i true=false:=getD_in (by rw [(M7 size 0).1];omega) (by rw [h3];simp)
    simp [this]
 | succ m ih=>
   intro hm
   have h1:=ih (by omega)
   have h3:=(M7 size m).2 m
   have h4:(Bd size m).getD m true=false:=getD_in (by rw [(M7 size m).1];omega) (by rw [h3];simp)
   have:=Ajr (n:=n) (i:=m) (listed:=Bd size m) (by omega) (by rw [(M7 size m).1];omega) h4
   rw [Apl] at this
   omega
theorem Ag5 {n0:Nat} {σ:St} {a:Act} {w:World} {O vals fp} {post:List G} {K:St→Prop} (hf:Adv P N ops pre post=true) (hn0:n0≤pre.length) (ho:Ok σ a w O gv N vals fp) (hQp : ∀c a w,¬Q (.panic c) a w) (hdum:Yl n0 σ=true)
  (h:E8 P (Oh pre) σ (pre.drop n0) (Rb n0) (List.replicate n0 []) (List.replicate n0 []) fun σ'=>Eh P post K σ') (hn:Hn w O gv N fp K (Q .normal)):wpAny P .any ops Q (ops.size-n0) (Bd ops.size n0) a w:=by
 simp only [Adv,Bool.and_eq_true] at hf
 obtain ⟨⟨⟨⟨⟨⟨⟨hgs,hmix⟩,hT⟩,hKT⟩,hlt⟩,htail⟩,hseq⟩,hLT⟩:=hf
 have hlt' : ∀(i:Nat) (o:Oper),ops[i]? = some o → ∀e∈o.after,Region.binds .any e=true→e.on<i:=by
  intro i o hi e he hb
  have hm:(o,i)∈ops.toList.zipIdx:=by
   rw [List.mem_iff_getElem?]
   exact ⟨i,by simp [List.getElem?_zipIdx,hi]⟩
  have h1:=List.all_eq_true.1 (List.all_eq_true.1 hlt _ hm) e (by simpa using he)
  simp only [Bool.or_eq_true,Bool.not_eq_true',decide_eq_true_eq] at h1
  rcases h1 with h1 | h1
  ·rw [hb] at h1;cases h1
  ·exact h1
 have split : ∀(xs ys:List G) (os:List Oper),Dd P N ops (xs++ys) os=true→Dd P N ops xs (os.take xs.length)=true∧Dd P N ops ys (os.drop xs.length)=true∧xs.length+ys.length=os.length:=by
  intro xs
  induction xs with
  | nil=>
    intro ys os h
    refine ⟨by simp [Dd],by simpa using h,?_⟩
    have : ∀(ys:List G) (os:List Oper),Dd P N ops ys os=true→ys.length=os.length:=by
     intro ys
     induction ys with
     | nil=>intro os h;cases os<;>simp [Dd] at h ⊢
     | cons y ys ih=>intro os h;cases os with
       | nil=>simp [Dd] at h
       | cons o os=>simp only [Dd,Bool.and_eq_true] at h;simp [ih os h.2]
    simpa using this ys os h
  | cons x xs ih=>
    intro ys os h
    cases os with
    | nil=>simp [Dd] at h
    | cons o os=>
      simp only [List.cons_append,Dd,Bool.and_eq_true] at h
      obtain ⟨h1,h2,h3⟩:=ih ys os h.2
      exact ⟨by simp [Dd,h.1,h1],by simpa using h2,by simp;omega⟩
 obtain ⟨hpre,hpost,hlen⟩:=split _ _ _ hgs
 simp only [List.length_map,Array.length_toList] at hpre hpost hlen
 have hn':pre.length≤ops.size:=by omega
 have hdat : ∀(i s:Nat) (r:A),(Rb n0:List (Nat×A))[i]? = some (s,r)→i<n0∧s=1000000+i∧r = .top:=by
  intro i s r hi
  unfold Rb at hi
  rw [List.getElem?_map] at hi
  obtain ⟨k,h1,h2⟩:=Option.map_eq_some_iff.1 hi
  have h3:=(List.getElem?_eq_some_iff.1 h1).1
  simp at h3
  simp [h3] at h1
  subst h1
  cases h2
  exact ⟨h3,rfl,rfl⟩
 have hdl:(Rb n0).length=n0:=by simp [Rb]
 have hkn : ∀m,kn (Rb m)=true:=by
  have key : ∀m,A6 (1000000+m) (Rb m)=false ∧ ∀k,m≤k→A6 (1000000+k) (Rb m)=false:=by
   intro m
   have : ∀k,m≤k→A6 (1000000+k) (Rb m)=false:=by
    intro k hk
    cases hc:A6 (1000000+k) (Rb m) with
    | false=>rfl
    | true=>
      obtain ⟨i,r,hi⟩:=G9 hc
      unfold Rb at hi
      rw [List.getElem?_map] at hi
      obtain ⟨q,h1,h2⟩:=Option.map_eq_some_iff.1 hi
      have h3:=(List.getElem?_eq_some_iff.1 h1).1
      simp at h3
      simp [h3] at h1
      subst h1
      have:=(Prod.mk.inj h2).1
      omega
   exact ⟨this m (Nat.le_refl _),this⟩
  intro m
  induction m with
  | zero=>rfl
  | succ m ih=>
    have e:Rb (m+1)=Rb m++[(1000000+m,.top)]:=by simp [Rb,List.range_succ]
    rw [e]
    exact Apk ih (key m).1
 have hsz:=fun i (hi:i<n0)=>List.all_eq_true.1 hdum i (List.mem_range.2 hi)
 have htop0 : ∀e∈Rb n0,look σ e.1 = .top:=by
  intro e he
  obtain ⟨i,hi⟩:=List.mem_iff_getElem?.1 he
  obtain ⟨s,r⟩:=e
  obtain ⟨h1,rfl,_⟩:=hdat i s r hi
  have:=hsz i h1
  unfold Aop at this
  split at this
  ·assumption
  ·cases this
 obtain ⟨H,KS,CS,hH,hHl,⟨hroots,hroots2⟩,hK⟩:=Aq5 (n0:=n0) (P:=P) (ops:=ops) (gv:=gv) (N:=N) (Q:=Q) (σ0:=σ) (all:=pre) hpre (fun j hj=>by
   simp at hj;simp [List.getElem?_take];omega) (pre.drop n0) (Rb n0) (List.replicate n0 []) (List.replicate n0 []) _ h (by rw [hdl,List.length_drop];omega) (fun j=>by rw [hdl,List.getElem?_drop]) (by rw [hdl];exact Nat.le_refl _)
   ⟨by rw [hdl];exact hn0,by simp [hdl],by simp [hdl],(fun i ks cs hk _=>by
    obtain ⟨h2,h3⟩:=List.getElem?_eq_some_iff.1 hk
    simp at h3
    exact .inr h3),(fun c hc=>by
    obtain ⟨l,h1,h2⟩:=List.mem_flatten.1 hc
    rw [List.eq_of_mem_replicate h1] at h2
    cases h2),(fun i cs c x hide hk hc _=>by
    obtain ⟨h2,h3⟩:=List.getElem?_eq_some_iff.1 hk
    simp at h3
    subst h3
    cases hc),(fun j cs _ hk=>by
    obtain ⟨h2,h3⟩:=List.getElem?_eq_some_iff.1 hk
    simp at h3
    exact h3),hkn n0,htop0,(by
    intro e he
    obtain ⟨i,hi⟩:=List.mem_iff_getElem?.1 he
    obtain ⟨s,r⟩:=e
    obtain ⟨_,_,rfl⟩:=hdat i s r hi
    rfl),(fun i d r _ hi=>(hdat i d r hi).2.2),(fun i d r h0 hi=>by have:=(hdat i d r hi).1;omega),(fun i ks x hide hk hp=>by
    have h1:=(List.getElem?_eq_some_iff.1 hk)
    obtain ⟨h2,h3⟩:=h1
    simp at h3
    subst h3
    rfl),(fun i d r ks cs x hide h0 hi _ _ _=>by have:=(hdat i d r hi).1;omega)⟩
 have hold : ∀t,A6 t H=true → ∀s,(look σ s).mapR (At t 0)=look σ s:=by
  intro t ht s
  obtain ⟨j,q,hj⟩:=G9 ht
  exact ho.sim.noref (hH.top _ (List.mem_of_getElem? hj)) s
 obtain ⟨hl1,hl2⟩:=M7 ops.size n0
 have hmid:look σ=look (mid (Bd ops.size n0) KS H (bas (Bd ops.size n0) CS σ)):=by
  have hbn:look (bas (Bd ops.size n0) CS σ)=look σ:=by
   rw [Iv hH]
   refine Ada fun j cs hj hc=> ?_
   rw [Nat.zero_add,hl2]
   have:n0≤j:=by
    rcases Nat.lt_or_ge j n0 with h1 | h1
    ·exact absurd (hH.dumc j cs h1 hj) hc
    ·exact h1
   simp;omega
  funext s
  by_cases hk:A6 s H=true
  ·obtain ⟨j,q,hj⟩:=G9 hk
   rw [Gc hH (Yp hH _) _ hj,hH.top _ (List.mem_of_getElem? hj)]
   split
   ·rename_i hc
    have:j<n0:=by
     have:=hc.1
     rw [hl2] at this
     simp at this;exact this.1
    exact (hH.dum j s q this hj).symm
   ·rfl
  ·rw [M0 (by simpa using hk),hbn]
 have hcn:=Axb (size:=ops.size) hn' n0 hn0
 have main:=Ap1 (Q:=Q) hH hKT hLT hroots hroots2 hold hHl rfl hT hlt' hn' (by
  intro hlt2
  simp only [Bool.or_eq_true,Bool.and_eq_true,decide_eq_true_eq] at htail
  rcases htail with h1 | h1
  ·omega
  ·exact ⟨h1.1.2,h1.2⟩) hQp (ops.size-pre.length) _ (Bd ops.size n0) a w O vals fp rfl (fun i hi=>by rw [hl2];simp;omega) (Axa hn0 hn' hlt') (ho.congr hmid) (by
   intro l2 a2 w2 O2 vals2 fp2 inv2 hall2 ho2 hm2
   have el:l2=Bd ops.size pre.length:=by
    obtain ⟨f1,f2⟩:=M7 ops.size pre.length
    apply Array.ext
    ·rw [inv2.size,f1]
    ·intro j hj1 hj2
     have e1:l2.getD j false=l2[j]:=by simp [Array.getD,hj1]
     have e2:(Bd ops.size pre.length).getD j false=(Bd ops.size pre.length)[j]:=by simp [Array.getD,hj2]
     rw [←e1,←e2,f2]
     have hjs:j<ops.size:=by rw [←inv2.size];exact hj1
     by_cases hjn:j<pre.length
     ·rw [hall2 j hjn];simp [hjn,hjs]
     ·rw [getD_both (inv2.tail j (by omega) hjs)];simp [hjn]
   subst el
   have hdl2:(ops.toList.drop pre.length).length=ops.size-pre.length:=by simp
   rw [←hdl2]
   refine wpAny_of_seq (ops.toList.drop pre.length) pre.length _ a2 w2 (fun j=>by simp [List.getElem?_drop]) (by rw [hdl2];exact hseq) ?_
   exact Agy hpost ho2 hK (Hn.pre hn hm2))
 rw [show ops.size-n0=cnt pre.length (Bd ops.size n0)+(ops.size-pre.length) by omega]
 exact main
theorem Aas {post:List G} (hf:Adv P N ops pre post=true):P.follows .mixedOrders=true∧Dd P N ops (pre.map (·.1)++post) ops.toList=true ∧ ∀(i:Nat) (o:Oper),ops[i]? = some o → ∀e∈o.after,Region.binds .any e=true→e.on<i:=by
 simp only [Adv,Bool.and_eq_true] at hf
 obtain ⟨⟨⟨⟨⟨⟨⟨hgs,hmix⟩,hT⟩,hKT⟩,hlt⟩,htail⟩,hseq⟩,hLT⟩:=hf
 refine ⟨hmix,hgs,?_⟩
 intro i o hi e he hb
 have hm:(o,i)∈ops.toList.zipIdx:=by
  rw [List.mem_iff_getElem?]
  exact ⟨i,by simp [List.getElem?_zipIdx,hi]⟩
 have h1:=List.all_eq_true.1 (List.all_eq_true.1 hlt _ hm) e (by simpa using he)
 simp only [Bool.or_eq_true,Bool.not_eq_true',decide_eq_true_eq] at h1
 rcases h1 with h1 | h1
 ·rw [hb] at h1;cases h1
 exact h1
theorem Anv {id:Nat} {σ:St} {a:Act} {w:World} {O vals fp} {post:List G} {K:St→Prop} (hf:Adv P N ops pre post=true) (ho:Ok σ a w O gv N vals fp) (hQp : ∀c a w,¬Q (.panic c) a w)
  (h:E8 P (Oh pre) σ pre [] [] [] fun σ'=>Eh P post K σ') (hn:Hn w O gv N fp K (Q .normal)):(Code.region id ops true).wp P Q a w:=by
 refine wp_region_any (Aas hf).1 ?_
 have hheap:Mv w O (Sof fp) { w with drawn:=w.drawn+1 } O (Sof fp):=⟨rfl,rfl,rfl,Nat.le_refl _,fun _ _ _=>⟨rfl,.rfl⟩,fun _ h=> .inl h⟩
 have ho1:Ok σ a { w with drawn:=w.drawn+1 } O gv N vals fp:=ho.world (fun b hb _=>⟨rfl,hb⟩) (fun b ⟨s,hs⟩=>⟨rfl,(ho.sim.fpO s b hs).1⟩)
 exact Ag5 (n0:=0) hf (Nat.zero_le _) ho1 hQp rfl h (Hn.pre hn hheap)
theorem Asy {n0:Nat} (htk : ∀i,i<n0→Awc ops i=true) (hns:Region.noSelect ops=true) (hlt : ∀(i:Nat) (o:Oper),ops[i]? = some o → ∀e∈o.after,Region.binds .any e=true→e.on<i) (hQp : ∀c a w,¬Q (.panic c) a w) (g:Nat) :
  ∀(gs:List G) (i:Nat) (σ:St) (a:Act) (w:World) O vals fp (K:St→Prop),i+gs.length=n0→(∀j x,gs[j]? = some x → ∃o,ops[i+j]? = some o∧Aeg P N ops x o=true)→(∀x∈gs,∃d y,x=⟨none,.mov d y⟩) →
    Ok σ a w O gv N vals fp→Eh P gs K σ →
    (∀σ1 a1 w1 O1 vals1 fp1,Ok σ1 a1 w1 O1 gv N vals1 fp1→K σ1→Mv w O (Sof fp) w1 O1 (Sof fp1)→wpAny P .any ops Q g (Bd ops.size n0) a1 w1)→wpAny P .any ops Q (gs.length+g) (Bd ops.size i) a w:=by
 intro gs
 induction gs with
 | nil=>
   intro i σ a w O vals fp K hi _ _ ho h hk
   have:i=n0:=by simpa using hi
   subst this
   rw [List.length_nil,Nat.zero_add]
   exact hk σ a w O vals fp ho h (Mv.refl _ _ _)
 | cons x r ih=>
   intro i σ a w O vals fp K hi hfit hmv ho h hk
   obtain ⟨d,y,rfl⟩:=hmv x (by simp)
   obtain ⟨o,hoi,hfg⟩:=hfit 0 _ rfl
   rw [Nat.add_zero] at hoi
   have his:i<ops.size:=(Array.getElem?_eq_some_iff.1 hoi).1
   have hin:i<n0:=by simp at hi;omega
   have ht:=htk i hin
   unfold Awc at ht
   rw [hoi] at ht
   simp only [Bool.and_eq_true] at ht
   obtain ⟨⟨hop,hg⟩,hfree⟩:=ht
   obtain ⟨x',hop'⟩ : ∃x',o.op = .move x':=by
    split at hop
    ·exact ⟨_,by assumption⟩
    ·cases hop
   have hg':o.guard=none:=by simpa using hg
   simp only [Aeg,Bool.and_eq_true] at hfg
   have hfo:A9 P N o (.mov d y)=true:=hfg.1.1.1
   have hst:Bt (.mov d y) σ=some (Au d (upA (Ai σ y)) σ):=rfl
   have h':Eh P r K (Au d (upA (Ai σ y)) σ):=h
   obtain ⟨v,w',O',vals',fp',hrun,ho',hm⟩:=K2 hfo ho hst
   have hex : ∀w,(execOp a.eval o).run P w = .ok (.value (a.eval x')) w:=fun w=>by simp [execOp,hop']
   rw [hex w] at hrun
   have hv:v=a.eval x'∧w'=w:=by
    rcases hrun with hrun | ⟨hrun,_⟩
    ·cases hrun;exact ⟨rfl,rfl⟩
    ·cases hrun
   obtain ⟨rfl,rfl⟩:=hv
   have hy:Yields P ops o (a.eval x') a:= .inl ⟨by simp [Region.wanted,hg'],hex⟩
   obtain ⟨hl1,hl2⟩:=M7 ops.size i
   have hun:(Bd ops.size i).getD i true=false:=getD_in (by rw [hl1];exact his) (by rw [hl2];simp)
   have hr:i∈Region.ready .any ops (Bd ops.size i):=mem_ready.2 ⟨hun,o,hoi,fun e he hb=>by
    have:=hlt i o hoi e he hb
    rw [hl2];simp;omega⟩
   rw [List.length_cons,show r.length+1+g=(r.length+g)+1 by omega]
   refine wpAny_first hoi (Region.noSelect_spec hns) (fun c a w hq=>absurd hq (hQp _ _ _)) (r.length+g) _ a _ (fun j oj hj hne hju hno=> ?_) hr hy ?_
   ·have hjs:=(Array.getElem?_eq_some_iff.1 hj).1
    have h1:=List.all_eq_true.1 hfree j (List.mem_range.2 hjs)
    simp only [hj,Bool.or_eq_true,decide_eq_true_eq] at h1
    rcases h1 with h1 | h1 | h1
    ·have h2:(Bd ops.size i).getD j false=true:=by rw [hl2];simp;omega
     rw [getD_both hju] at h2;cases h2
    ·obtain ⟨e,he,hb⟩:=Array.any_eq_true'.1 h1
     simp only [Bool.and_eq_true,beq_iff_eq] at hb
     exact absurd hb.2 (hno e he hb.1)
    ·exact h1
   ·rw [Apl]
    refine ih (i+1) _ _ _ O' vals' fp' K (by simp at hi;omega) (fun j z hz=> ?_) (fun z hz=>hmv z (by simp [hz])) ho' h' fun σ1 a1 w1 O1 vals1 fp1 k1 k2 k3=>hk σ1 a1 w1 O1 vals1 fp1 k1 k2 (hm.trans k3)
    obtain ⟨o2,h2,h3⟩:=hfit (j+1) z (by simpa using hz)
    exact ⟨o2,by rw [show i+1+j=i+(j+1) by omega];exact h2,h3⟩
theorem Aku {id n0:Nat} {ds:List Nat} {σ:St} {a:Act} {w:World} {O vals fp} {post:List G} {K:St→Prop} (hf:Amy P N ops n0 pre post=true) (ho:Ok σ a w O gv N vals fp) (hQp : ∀c a w,¬Q (.panic c) a w)
  (h:Eh P ((pre.take n0).map (·.1)) (fun σ1=>Yl n0 (Ho ds σ1)=true∧E8 P (Oh pre) (Ho ds σ1) (pre.drop n0) (Rb n0) (List.replicate n0 []) (List.replicate n0 []) fun σ'=>Eh P post K σ') σ) (hn:Hn w O gv N fp K (Q .normal)):(Code.region id ops true).wp P Q a w:=by
 simp only [Amy,Bool.and_eq_true,decide_eq_true_eq] at hf
 obtain ⟨⟨⟨⟨hfd,hn0⟩,hns⟩,hmv⟩,htk⟩:=hf
 obtain ⟨hmix,hgs,hlt⟩:=Aas hfd
 refine wp_region_any hmix ?_
 have hheap:Mv w O (Sof fp) { w with drawn:=w.drawn+1 } O (Sof fp):=⟨rfl,rfl,rfl,Nat.le_refl _,fun _ _ _=>⟨rfl,.rfl⟩,fun _ h=> .inl h⟩
 have ho1:Ok σ a { w with drawn:=w.drawn+1 } O gv N vals fp:=ho.world (fun b hb _=>⟨rfl,hb⟩) (fun b ⟨s,hs⟩=>⟨rfl,(ho.sim.fpO s b hs).1⟩)
 have getfit : ∀ {gs:List G} {os:List Oper} {i:Nat} {g:G},Dd P N ops gs os=true→gs[i]? = some g → ∃o,os[i]? = some o∧Aeg P N ops g o=true:=by
  intro gs
  induction gs with
  | nil=>intro os i g _ hi;simp at hi
  | cons g' gs ih'=>
    intro os i g hf hi
    cases os with
    | nil=>simp [Dd] at hf
    | cons o os=>
      simp only [Dd,Bool.and_eq_true] at hf
      cases i with
      | zero=>simp at hi;subst hi;exact ⟨o,by simp,hf.1⟩
      | succ i=>simp at hi;obtain ⟨o',h1,h2⟩:=ih' hf.2 hi;exact ⟨o',by simpa using h1,h2⟩
 have hlen:n0≤ops.size:=by
  have : ∀(ys:List G) (os:List Oper),Dd P N ops ys os=true→ys.length=os.length:=by
   intro ys
   induction ys with
   | nil=>intro os h;cases os<;>simp [Dd] at h ⊢
   | cons y ys ih=>intro os h;cases os with
     | nil=>simp [Dd] at h
     | cons o os=>simp only [Dd,Bool.and_eq_true] at h;simp [ih os h.2]
  have:=this _ _ hgs
  simp at this
  omega
 have hll:((pre.take n0).map (·.1)).length=n0:=by simp;omega
 have main:=Asy (P:=P) (ops:=ops) (Q:=Q) (gv:=gv) (N:=N) (n0:=n0) (fun i hi=>List.all_eq_true.1 htk i (List.mem_range.2 hi)) hns hlt hQp (ops.size-n0) ((pre.take n0).map (·.1)) 0 σ a { w with drawn:=w.drawn+1 } O vals fp _ (by rw [hll,Nat.zero_add]) (fun j x hx=>by
   rw [List.getElem?_map,List.getElem?_take] at hx
   split at hx
   ·rename_i hj
    have h1:(pre.map (·.1)++post)[j]? = some x:=by
     rw [List.getElem?_append_left (by simp;omega),List.getElem?_map];exact hx
    obtain ⟨o,h2,h3⟩:=getfit hgs h1
    exact ⟨o,by rw [Nat.zero_add];simpa using h2,h3⟩
   ·cases hx) (fun x hx=>by
   obtain ⟨e,he,rfl⟩:=List.mem_map.1 hx
   have:=List.all_eq_true.1 hmv e he
   unfold Axr at this
   split at this
   ·exact ⟨_,_,rfl⟩
   ·cases this) ho1 h (fun σ1 a1 w1 O1 vals1 fp1 k1 k2 k3=>by
   obtain ⟨fp2,k4,k5⟩:=k1.drop ds
   exact Ag5 hfd hn0 k4 hQp k2.1 k2.2 (Hn.pre hn (hheap.trans (k3.shrink k5))))
 rw [hll,show n0+(ops.size-n0)=ops.size by omega] at main
 exact main
end
end Go.Proofs.YtbnoclklhcbidaaDoor.Ax
namespace Go.Proofs.YtbnoclklhcbidaaDoor.Ax
open Go
def Adj:AOp→Bool
 | .mov _ _=>true
 | .fadr _ _ _=>true
 | .ld _ _ _ _=>true
 | .iad _ _ _ _=>true
 | _=>false
def Aj2:A→Bool
 | .ref _ _=>true
 | .addr _ _ _=>true
 | .val (.int _ _)=>true
 | .val (.bool _)=>true
 | _=>false
def Abb:A→Bool
 | .agg as=>as.all Aj2
 | .ref _ _=>true
 | .addr _ _ _=>true
 | .val (.int _ _)=>true
 | .val (.bool _)=>true
 | _=>false
def Aos:A→Bool
 | .val v => !v.hasOwn
 | .fad _=>true
 | _=>false
def Wb:A→Bool
 | .agg as=>as.all fun a=>Aj2 a || Aos a
 | a=>Abb a || Aos a
theorem Ai6 {a:A} (h:Abb a=true):Wb a=true:=by
 unfold Wb
 split
 ·rename_i as
  unfold Abb at h
  refine List.all_eq_true.2 fun x hx=> ?_
  rw [List.all_eq_true.1 h x hx];rfl
 rw [h];rfl
def Al1 (d:Nat) (σ:St):Bool:=σ.all fun e => !(e.2.roots.contains d)
def Ame (a:A) (d:Nat) (σ:St):Bool:=match Abb a with
 | true=>true
 | false=>(match Wb a with
   | true=>Al1 d σ
   | false=>false)
theorem Aqq {a:A} {d:Nat} {σ:St} (h:Ame a d σ=true):Wb a=true∧(Abb a=true∨Al1 d σ=true):=by
 unfold Ame at h
 split at h
 ·rename_i hu;exact ⟨Ai6 hu,.inl hu⟩
 split at h
 ·rename_i hc;exact ⟨hc,.inr h⟩
 cases h
mutual
theorem Zk {d:Nat}:(a:A)→d∉a.roots→a.mapR (At d 0)=a
 | .top,_=>rfl
 | .val _,_=>rfl
 | .fad _,_=>rfl
 | .ref r p,h=>by
   have:r≠d:=fun e=>h (by simp [A.roots,e])
   simp [A.mapR,At,this]
 | .addr r p c,h=>by
   have:r≠d:=fun e=>h (by simp [A.roots,e])
   simp [A.mapR,At,this]
 | .agg as,h=>by
   simp only [A.mapR]
   rw [Nz as (by simpa [A.roots] using h)]
 | .clo f as,h=>by
   simp only [A.mapR]
   rw [Nz as (by simpa [A.roots] using h)]
 | .tie b f p q,h=>by
   simp only [A.mapR]
   rw [Nz p (fun hx=>h (by simp [A.roots,hx])),Nz q (fun hx=>h (by simp [A.roots,hx]))]
theorem Nz {d:Nat}:(as:List A)→d∉Dw as→Bw (At d 0) as=as
 | [],_=>rfl
 | a::r,h=>by
   simp only [Bw]
   rw [Zk a (fun hh=>h (by simp [Dw,hh])),Nz r (fun hh=>h (by simp [Dw,hh]))]
end
theorem Apu {σ:St} {d:Nat} {a:A} (hL:look σ d=a) (hn:Al1 d σ=true):look (Au d a σ)=look σ:=by
 have key : ∀s,d∉(look σ s).roots:=by
  intro s
  clear hL
  induction σ with
  | nil=>simp [look,A.roots]
  | cons e r ih=>
    obtain ⟨k,x⟩:=e
    simp only [Al1,List.all_cons,Bool.and_eq_true] at hn
    simp only [look]
    split
    ·simpa using hn.1
    ·exact ih hn.2
 rw [B7]
 funext s
 simp only [upF,Gy]
 by_cases hs:s=d
 ·subst hs
  rw [if_pos rfl,←hL,Zk _ (key s)]
 rw [if_neg hs,if_neg hs,Zk _ (key s)]
theorem Mv.more {w w':World} {O O' S S1 S':Nat→Prop} (h:Mv w O S1 w' O' S') (hs : ∀b,S1 b→S b):Mv w O S w' O' S':=by
 obtain ⟨h1,h2,h3,h4,h5,h6⟩:=h
 exact ⟨h1,h2,h3,h4,fun b hb hS=>h5 b hb fun h=>hS (hs b h),fun b hb=>(h6 b hb).imp (hs b) id⟩
theorem Tp {w O L vals a v v'} (h:RelL w O L vals [a] [v]) (h':RelL w O L vals [a] [v']) (hu:Aj2 a=true):v=v':=by
 cases h with
 | top=>cases hu
 | val _ hr _=>
   cases h' with
   | val _ hr' _=>
     unfold Aj2 at hu
     split at hu
     case h_1 e=>cases e
     case h_2 e=>cases e
     case h_3 e=>cases e;rw [Bn hr,Bn hr']
     case h_4 e=>cases e;rw [D6 hr,D6 hr']
     case h_5=>cases hu
 | ref hL hs hv _=>
   cases h' with
   | ref hL' hs' hv' _=>rw [hv] at hv';exact Option.some.inj hv'
 | addr hL hs hn hv hb _=>
   cases h' with
   | addr hL' hs' hn' hv' hb' _=>
     rw [hv] at hv'
     cases hv'
     rw [hb] at hb'
     cases hb'
     rfl
 | fad=>cases hu
 | agg=>cases hu
 | clo=>cases hu
 | tie=>cases hu
 | tcl=>cases hu
theorem Aq1 {w O L vals} : ∀ {as:List A} {vs vs':List Value},RelL w O L vals as vs→RelL w O L vals as vs'→as.all Aj2=true→vs=vs':=by
 intro as
 induction as with
 | nil=>intro vs vs' h h' _;cases h;cases h';rfl
 | cons a r ih=>
   intro vs vs' h h' hu
   simp only [List.all_cons,Bool.and_eq_true] at hu
   have one : ∀ {vs},RelL w O L vals (a::r) vs → ∃x q,vs=x::q∧RelL w O L vals [a] [x]∧RelL w O L vals r q:=by
    intro vs h
    cases h with
    | top t=>exact ⟨_,_,rfl,.top .nil,t⟩
    | val a b t=>exact ⟨_,_,rfl,.val a b .nil,t⟩
    | ref a b c t=>exact ⟨_,_,rfl,.ref a b c .nil,t⟩
    | addr a b c d e t=>exact ⟨_,_,rfl,.addr a b c d e .nil,t⟩
    | fad a b c t=>exact ⟨_,_,rfl,.fad a b c .nil,t⟩
    | agg a t=>exact ⟨_,_,rfl,.agg a .nil,t⟩
    | clo a t=>exact ⟨_,_,rfl,.clo a .nil,t⟩
    | tie a b c d t=>exact ⟨_,_,rfl,.tie a b c d .nil,t⟩
    | tcl a b c d t=>exact ⟨_,_,rfl,.tcl a b c d .nil,t⟩
   obtain ⟨x,q,rfl,h1,h2⟩:=one h
   obtain ⟨x',q',rfl,h1',h2'⟩:=one h'
   rw [Tp h1 h1' hu.1,ih h2 h2' hu.2]
theorem Ark {w O L vals a v v'} (h:RelL w O L vals [a] [v]) (h':RelL w O L vals [a] [v']) (hu:Abb a=true):v=v':=by
 cases ha:a with
 | agg as=>
   subst ha
   cases h with
   | agg s _=>
     cases h' with
     | agg s' _=>rw [Aq1 s s' hu]
 | val V=>subst ha;exact Tp h h' (by cases V<;>first | exact hu | (cases hu))
 | ref r p=>subst ha;exact Tp h h' rfl
 | addr r p c=>subst ha;exact Tp h h' rfl
 | _=>subst ha;cases hu
theorem Ajs {P:Program} {o:Oper} {x:AOp} {σ a w O gv N vals fp} {d:Nat} {r:A} (hl:Adj x=true) (hf:A9 P N o x=true) (h:Ok σ a w O gv N vals fp) (hq:qR x σ=some (d,r)) (hu:Wb r=true) :
  ∃v,(execOp a.eval o).run P w = .ok (.value v) w∧RelL w O (look σ) vals [r] [v]∧o.dst=some d∧d<N:=by
 cases x with
 | mov d' y=>
   simp only [A9,Bool.and_eq_true,beq_iff_eq,decide_eq_true_eq] at hf
   obtain ⟨⟨hd,hN⟩,hf⟩:=hf
   simp only [qR] at hq
   obtain ⟨b,h1,h2⟩:=Option.map_eq_some_iff.1 hq
   cases h2
   have hb:Ai σ y=b:=by unfold nt at h1;split at h1<;>simp_all
   have hx : ∃x',(o.op = .move x'∨o.op = .assign x')∧Av N y x'=true:=by
    split at hf
    ·exact ⟨_,.inl (by assumption),hf⟩
    ·exact ⟨_,.inr (by assumption),hf⟩
    ·cases hf
   obtain ⟨x',ho,hx'⟩:=hx
   have hr:=Aq h hx'
   rw [hb] at hr
   refine ⟨a.eval x',by rcases ho with ho | ho<;>simp [execOp,ho],?_,hd,hN⟩
   cases b with
   | val z=>
     have hn:z.up.hasOwn=false:=by
      simp only [upA,Wb,Bool.or_eq_true] at hu
      rcases hu with hu | hu
      ·generalize z.up=y at hu ⊢
       cases y<;>first | rfl | (cases hu)
      ·simpa [Aos] using hu
     cases hr with
     | val _ hr _=>exact .val hn hr.up1 .nil
   | ref p q=>exact hr
   | addr p q c=>exact hr
   | agg as=>exact hr
   | fad cs=>exact hr
   | _=>simp [upA,Wb,Abb,Aos] at hu
 | fadr d' off y=>
   simp only [A9,Bool.and_eq_true,beq_iff_eq,decide_eq_true_eq] at hf
   obtain ⟨⟨hd,hN⟩,hf⟩:=hf
   simp only [qR] at hq
   obtain ⟨l,hl',h2⟩:=Option.map_eq_some_iff.1 hq
   cases h2
   split at hf
   case h_2=>cases hf
   rename_i t x' i ho
   simp only [Bool.and_eq_true] at hf
   obtain ⟨hx,ht⟩:=hf
   split at ht
   case h_2=>cases ht
   rename_i off' fi hts
   simp only [Bool.and_eq_true,beq_iff_eq,bne_iff_ne] at ht
   obtain ⟨rfl,hz⟩:=ht
   unfold Ajf at hts
   split at hts
   case h_2=>cases hts
   rename_i fs hfs
   split at hts
   case h_2=>cases hts
   rename_i f hf1
   obtain ⟨fi',hfi,h3⟩:=Option.map_eq_some_iff.1 hts
   cases h3
   obtain ⟨b,c,hv,hr⟩:=Nr f.offset (Jl h (Aq h hx) hl')
   refine ⟨_,?_,hr,hd,hN⟩
   simp [execOp,ho,hv,Instr.fieldAt,run_underlying hfs,hf1,Instr.sureAddr,fieldPlace,Ce hfi,hz,E9]
 | ld d' n ag y=>
   simp only [A9,Bool.and_eq_true,beq_iff_eq,decide_eq_true_eq] at hf
   obtain ⟨⟨hd,hN⟩,hf⟩:=hf
   split at hf
   case h_2=>cases hf
   rename_i t x' ho
   simp only [Bool.and_eq_true] at hf
   simp only [qR] at hq
   split at hq
   case h_2=>cases hq
   rename_i l hl'
   obtain ⟨z,hy,h2⟩:=Option.map_eq_some_iff.1 hq
   cases h2
   obtain ⟨u,h1,h2⟩:=Ad3 h hf.2 (Jl h (Aq h hf.1) hl') hy
   exact ⟨u,by simp [execOp,ho,h1],h2,hd,hN⟩
 | iad d' m y i=>
   simp only [A9,Bool.and_eq_true,beq_iff_eq,decide_eq_true_eq] at hf
   obtain ⟨⟨hd,hN⟩,hf⟩:=hf
   split at hf
   case h_2=>cases hf
   rename_i t x' i' ho
   simp only [Bool.and_eq_true] at hf
   obtain ⟨⟨hx,hii⟩,ht⟩:=hf
   split at ht
   case h_2=>cases ht
   rename_i fi hts
   obtain ⟨e,hu',hi⟩:=Cu hts
   have hsz:fi.size=m:=by simpa using ht
   have hrx:=Aq h hx
   have hri:=Aq h hii
   simp only [qR] at hq
   split at hq
   ·rename_i o' m' xs k j hex hej
    split at hq
    case isFalse=>cases hq
    rename_i hb
    obtain ⟨rfl,hb0,hb1⟩:=hb
    cases hq
    rw [hex] at hrx;rw [hej] at hri
    have hiv:a.eval i' = .int k j:=by cases hri with | val _ hr _=>exact Bn hr
    cases hrx with
    | val hn hr _=>
      obtain ⟨b,off,cap,v3,hval,hc,hO,r3⟩:=Atg hr (by simpa [V.hasOwn] using hn) (i:=j.toNat) (by omega)
      refine ⟨.pointer (some ⟨b,off+j.toNat*m',none⟩),?_,.fad (us:=v3) hc hO r3 .nil,hd,hN⟩
      simp [execOp,ho,hval,hiv,Instr.indexAt,asIntOf,run_underlying hu',hb0,hb1,Ce hi,hsz,E9]
   ·rename_i r p k j hex hej
    rw [hex] at hrx;rw [hej] at hri
    have hiv:a.eval i' = .int k j:=by cases hri with | val _ hr _=>exact Bn hr
    split at hq
    case h_2=>cases hq
    rename_i o' m' xs hnode
    split at hq
    case isFalse=>cases hq
    rename_i hb
    obtain ⟨rfl,rfl,hb0,hb1⟩:=hb
    cases hq
    cases hrx with
    | @ref _ _ U u v _ _ hL hsu hv _=>
      simp only [Bl,hL,hsu,Option.some.injEq] at hnode
      subst hnode
      obtain ⟨z,f1,f2,f3,_,hz,hru,_⟩:=ctx p (h.sim.own r U hL) hsu
      rw [hv] at hz;cases hz
      obtain ⟨b,kk,arr,e',f1',hh,_⟩:=(Tr hru rfl rfl).resolve_left (by rintro ⟨m,c,_⟩;cases c;simp at hb1;omega)
      refine ⟨.pointer (some ⟨b,j.toNat*m',none⟩),?_,.addr hL hsu rfl hv hh.block .nil,hd,hN⟩
      obtain ⟨cap,hval⟩ : ∃cap,a.eval x' = .slice (some ⟨b,0,none⟩) xs.length cap:=by
       generalize a.eval x'=q at hh
       cases hh;exact ⟨_,rfl⟩
      simp [execOp,ho,hval,hiv,Instr.indexAt,asIntOf,run_underlying hu',hb0,hb1,Ce hi,hsz,E9]
   ·cases hq
 | _=>cases hl
def Ir:List (Nat×AOp)→(St→Prop)→St→Prop
 | [],K,σ=>K σ
 | (_,x)::r,K,σ=>match qR x σ with
   | some (d,a)=>Wb a=true∧Ir r K (Au d a σ)
   | none=>False
def Amo (A:List (Nat×AOp)) (xs:List Nat) (σ:St):Prop := ∀e∈A,xs.contains e.1=true → ∃d a,qR e.2 σ=some (d,a)∧look σ d=a∧Ame a d σ=true
inductive LPlan where
 | nil
 | alt (i:Nat) (o:AOp) (xs ds:List Nat) (next other:LPlan)
def LPlan.isNil:LPlan→Bool
 | .nil=>true
 | .alt .. => false
def LPlan.idx:LPlan→List Nat
 | .nil=>[]
 | .alt i _ _ _ _ ot=>i::ot.idx
def Lg (P:Program) (A:List (Nat×AOp)) (K:St→Prop):LPlan→Bool→St→Prop
 | .nil,b,σ=>b=true→K σ
 | .alt _ x xs ds nx ot,_,σ=>(Amo A xs σ∧L7 P x (fun σ'=>Lg P A K nx true (Ho ds σ')) σ)∧Lg P A K ot false σ
def Arj (T:List (List Nat)) (pl:LPlan):List Nat→Bool
 | []=>pl.isNil
 | r::q => !pl.isNil&&(r::q).all fun x=>pl.idx.contains x || (r::q).any fun y=>(T.getD x []).contains y
def Abc (P:Program) (N:Nat) (ops:Array Oper) (T:List (List Nat)) (A:List (Nat×AOp)):LPlan→List Nat→List Nat→Bool
 | .nil,_,_=>true
 | .alt i x xs _ nx ot,done,Rm=>(match ops[i]? with | some o=>Rl P N o x&&o.guard.isNone | none=>false)&&Rm.contains i &&
   A.all (fun e=>xs.contains e.1 || done.any fun q=>(T.getD q []).contains e.1)&&Arj T nx (Rm.erase i)&&(!(Rm.erase i).isEmpty || A.all fun e=>(T.getD i []).contains e.1) &&
   Abc P N ops T A nx (i::done) (Rm.erase i)&&Abc P N ops T A ot done Rm
def To (ops:Array Oper) (A:List (Nat×AOp)):List Nat:=(List.range ops.size).filter fun i => !(A.map (·.1)).contains i
def W9 (P:Program) (N:Nat) (ops:Array Oper) (T:List (List Nat)) (A:List (Nat×AOp)) (R:List Nat) (e:Nat×AOp):Bool:=match ops[e.1]? with
 | some o=>Adj e.2&&A9 P N o e.2&&o.guard.isNone&&(match o.dst with
   | some d => !(o.looksAt ops).contains d&&A.all (fun f=>f.1==e.1 || (match ops[f.1]? with | some g=>g.dst != some d&&((T.getD f.1 []).contains e.1 || !(g.looksAt ops).contains d) | none=>false))
   | none=>false)&&R.all (fun f=>f != e.1&&((T.getD f []).contains e.1 || (match ops[f]? with | some g=>o.apart ops g | none=>false)))
 | none=>false
def Atn (P:Program) (N:Nat) (ops:Array Oper) (A:List (Nat×AOp)) (pl:LPlan):Bool:=
 P.follows .mixedOrders&&Region.noSelect ops&&decide (A.length+(To ops A).length=ops.size) &&
 ops.toList.zipIdx.all (fun (o,i)=>o.after.toList.all fun e => !Region.binds .any e || decide (e.on<i)) &&
 A.all (W9 P N ops (Eu ops) A (To ops A)) &&
 decide (A.map (·.1)).Nodup&&Arj (Eu ops) pl (To ops A)&&Abc P N ops (Eu ops) A pl [] (To ops A) && !(To ops A).isEmpty
def Jz:List (Nat×Nat×Value)→Act→Act
 | [],a=>a
 | (_,d,v)::q,a=>Jz q (a.put (some d) v)
theorem Ap2 : ∀ {p:List (Nat×Nat×Value)} {a:Act},(Jz p a).tmps.size=a.tmps.size:=by
 intro p
 induction p with
 | nil=>intro a;rfl
 | cons e q ih=>intro a;obtain ⟨i,d,v⟩:=e;simp only [Jz];rw [ih];simp [Act.put]
theorem Anx {t:Nat} : ∀ {p:List (Nat×Nat×Value)} {a:Act},(∀e∈p,e.2.1≠t)→(Jz p a).tmps.getD t undef=a.tmps.getD t undef:=by
 intro p
 induction p with
 | nil=>intro a _;rfl
 | cons e q ih=>
   intro a h
   obtain ⟨i,d,v⟩:=e
   simp only [Jz]
   rw [ih fun e he=>h e (by simp [he])]
   have hd:d≠t:=h (i,d,v) (by simp)
   simp [Act.put,Array.getD_eq_getD_getElem?,Array.getElem?_setIfInBounds_ne hd]
theorem Asm {i d:Nat} {v:Value} : ∀ {p:List (Nat×Nat×Value)} {a:Act},(i,d,v)∈p→(p.map (·.2.1)).Nodup→d<a.tmps.size→(Jz p a).tmps.getD d undef=v:=by
 intro p
 induction p with
 | nil=>intro a h;cases h
 | cons e q ih=>
   intro a h hn hd
   obtain ⟨j,t,u⟩:=e
   simp only [List.map_cons,List.nodup_cons] at hn
   simp only [Jz]
   rcases List.mem_cons.1 h with h1 | h1
   ·cases h1
    rw [Anx]
    ·simp [Act.put,Array.getD_eq_getD_getElem?,hd]
    ·intro e he hed
     exact hn.1 (List.mem_map.2 ⟨e,he,hed⟩)
   ·exact ih h1 hn.2 (by simpa [Act.put] using hd)
theorem Aq6 {d:Nat} {v:Value} : ∀ {p:List (Nat×Nat×Value)} {a:Act},(∀e∈p,e.2.1≠d)→Jz p (a.put (some d) v)=(Jz p a).put (some d) v:=by
 intro p
 induction p with
 | nil=>intro a _;rfl
 | cons e q ih=>
   intro a h
   obtain ⟨i,t,u⟩:=e
   simp only [Jz]
   have ht:t≠d:=h (i,t,u) (by simp)
   rw [Act.put_comm a (x:=some d) (y:=some t) v u (by rintro d' hd' ht';cases hd';cases ht';exact ht rfl),ih fun e he=>h e (by simp [he])]
theorem Agv {i d:Nat} {v:Value} : ∀ {p q:List (Nat×Nat×Value)} {a:Act},(∀e∈p,e.2.1≠d)→Jz (p++q) (a.put (some d) v)=Jz (p++(i,d,v)::q) a:=by
 intro p
 induction p with
 | nil=>intro q a _;rfl
 | cons e r ih=>
   intro q a h
   obtain ⟨j,t,u⟩:=e
   simp only [List.cons_append,Jz]
   have ht:t≠d:=h (j,t,u) (by simp)
   rw [Act.put_comm a (x:=some d) (y:=some t) v u (by rintro d' hd' ht';cases hd';cases ht';exact ht rfl)]
   exact ih fun e he=>h e (by simp [he])
section
variable {P:Program} {ops:Array Oper} {gv:Nat→Value} {N:Nat} {Q:Exit→Act→World→Prop}
theorem Aq2 {o:Oper} (hs : ∀cs b,o.op ≠ .select cs b) : ∀ {p:List (Nat×Nat×Value)} {a:Act},(∀e∈p,e.2.1∉o.looksAt ops)→execOp (Jz p a).eval o=execOp a.eval o:=by
 intro p
 induction p with
 | nil=>intro a _;rfl
 | cons e q ih=>
   intro a h
   obtain ⟨i,d,v⟩:=e
   simp only [Jz]
   rw [ih fun e he=>h e (by simp [he])]
   exact execOp_put (ops:=ops) o hs a (some d) v (by rintro d' hd';cases hd';exact h (i,d,v) (by simp))
theorem Aty {j:Nat} {oj:Oper} (hj:ops[j]? = some oj) (hsel : ∀(j:Nat) (o:Oper) cs b,ops[j]? = some o→o.op ≠ .select cs b) (hQp : ∀c a w,¬Q (.panic c) a w) {K:Act→World→Prop} {w:World} :
  ∀ {p:List (Nat×Nat×Value)} {a:Act},(∀e∈p,∃oe,ops[e.1]? = some oe∧oe.dst=some e.2.1∧oe.guard=none∧oe.apart ops oj=true)→wpOp P ops Q j K (Jz p a) w→wpOp P ops Q j (fun a1 w1=>K (Jz p a1) w1) a w:=by
 intro p
 induction p with
 | nil=>intro a _ h;exact h
 | cons e q ih=>
   intro a h hw
   obtain ⟨i,d,v⟩:=e
   obtain ⟨oe,h1,h2,h3,h4⟩:=h (i,d,v) (by simp)
   simp only at h1 h2
   simp only [Jz] at hw
   have h5:=ih (fun e he=>h e (by simp [he])) hw
   rw [←h2] at h5
   have h6:=wpOp_putIf (S:=fun _=>False) (P:=P) (Q:=Q) hj h4 (fun cs b=>hsel i oe cs b h1) (fun cs b=>hsel j oj cs b hj) (fun c a w hq=>absurd hq (hQp _ _ _))
    (.inl ⟨by simp [Region.wanted,h3],fun _ hf=>hf.elim⟩) h5
   refine wpOp_mono (fun a1 w1 h7=> ?_) h6
   have:=h7.2
   rw [h2] at this
   simp only [Jz]
   exact this
theorem Ahr {listed:Array Bool} (h : ∃i,listed.getD i true=false) : ∃i,listed.getD i true=false ∧ ∀j,j<i→listed.getD j true≠false:=by
 obtain ⟨i,hi⟩:=h
 have : ∀k i,i≤k→listed.getD i true=false → ∃i,listed.getD i true=false ∧ ∀j,j<i→listed.getD j true≠false:=by
  intro k
  induction k with
  | zero=>intro i hk hi;exact ⟨i,hi,fun j hj=>by omega⟩
  | succ k ih=>
    intro i hk hi
    by_cases h : ∃j,j<i∧listed.getD j true=false
    ·obtain ⟨j,hj,hju⟩:=h;exact ih j (by omega) hju
    ·exact ⟨i,hi,fun j hj hju=>h ⟨j,hj,hju⟩⟩
 exact this i i (Nat.le_refl _) hi
theorem Ar9 {σ:St} {a:Act} {w:World} {O vals fp} {d:Nat} {r:A} (h:Ok σ a w O gv N vals fp) (hL:look σ d=r) (hu:Abb r=true):RelL w O (look σ) vals [r] [vals d]:=by
 cases hr:r with
 | val V=>
   rw [hr] at hL hu
   have h1:=h.sim.own d V hL
   have hn:V.hasOwn=false:=by
    cases V<;>first | rfl | (cases hu)
   have h2:=h1.noOwn (by simp [Ba,hn])
   rw [h2] at h1
   exact .val hn h1 .nil
 | _=>
   rw [hr] at hL
   have:=h.sim.rel d (by intro V hV;rw [hL] at hV;cases hV)
   rw [hL] at this
   exact this
theorem Asw {A:List (Nat×AOp)} {K:St→Prop} {σ:St} {done Rm:List Nat} {i:Nat} : ∀ {pl:LPlan} {b:Bool},Lg P A K pl b σ→Abc P N ops (Eu ops) A pl done Rm=true→i∈pl.idx →
  ∃o x ds nx,ops[i]? = some o∧Rl P N o x=true∧o.guard=none∧Arj (Eu ops) nx (Rm.erase i)=true∧((!(Rm.erase i).isEmpty)=true∨(A.all fun e=>((Eu ops).getD i []).contains e.1)=true) ∧
    Abc P N ops (Eu ops) A nx (i::done) (Rm.erase i)=true∧L7 P x (fun σ'=>Lg P A K nx true (Ho ds σ')) σ:=by
 intro pl
 induction pl with
 | nil=>intro b _ _ h;cases h
 | alt j x xs ds nx ot _ ih=>
   intro b h hp hi
   simp only [Abc,Bool.and_eq_true] at hp
   by_cases hj:i=j
   ·subst hj
    obtain ⟨⟨⟨⟨⟨⟨h1,h2⟩,h3⟩,h4⟩,h5⟩,h6⟩,h7⟩:=hp
    split at h1
    ·rename_i o ho
     simp only [Bool.and_eq_true] at h1
     exact ⟨o,x,ds,nx,ho,h1.1,by simpa using h1.2,h4,by simpa only [Bool.or_eq_true] using h5,h6,h.1.2⟩
    ·cases h1
   ·exact ih h.2 hp.2 ((List.mem_cons.1 hi).resolve_left hj)
theorem Arn {A:List (Nat×AOp)} {R:List Nat} {K:St→Prop} (hsel : ∀(j:Nat) (o:Oper) cs b,ops[j]? = some o→o.op ≠ .select cs b)
  (hlt : ∀(i:Nat) (o:Oper),ops[i]? = some o → ∀e∈o.after,Region.binds .any e=true→e.on<i)
  (hA : ∀e∈A,W9 P N ops (Eu ops) A R e=true) (hQp : ∀c a w,¬Q (.panic c) a w) :
  ∀(m:Nat) (pend:List (Nat×Nat×Value)) (Rm:List Nat) (pl:LPlan) (done:List Nat) (listed:Array Bool) (a:Act) (w:World) (σ:St) O vals fp,
    pend.length+Rm.length=m→HeadInv .any ops ops.size listed→(∀i,listed.getD i true=false↔i∈pend.map (·.1)∨i∈Rm) →
    (∀e∈pend,(∃x,(e.1,x)∈A)∧(ops[e.1]?).bind (fun o:Oper=>o.dst)=some e.2.1∧e.2.1<N)→(pend.map (·.1)).Nodup→(pend.map (·.2.1)).Nodup→(∀e∈Rm,e∈R)→Rm.Nodup →
    Arj (Eu ops) pl Rm=true→Abc P N ops (Eu ops) A pl done Rm=true→(∀e∈pend,∀q∈done,e.1∉(Eu ops).getD q [])→(Rm=[]→pend=[]) →
    Ok σ (Jz pend a) w O gv N vals fp→Lg P A K pl true σ→Hn w O gv N fp K (Q .normal)→wpAny P .any ops Q m listed a w:=by
 intro m
 induction m with
 | zero=>
   intro pend Rm pl done listed a w σ O vals fp hm inv hch _ _ _ _ _ htop _ _ _ ho h hn
   have h1:pend=[]:=by cases pend with | nil=>rfl | cons=>simp at hm
   have h2:Rm=[]:=by cases Rm with | nil=>rfl | cons=>simp at hm
   subst h1;subst h2
   have h3:pl = .nil:=by cases pl with | nil=>rfl | alt=>cases htop
   subst h3
   refine ⟨?_,hn σ a w O vals fp (h rfl) ho (Mv.refl _ _ _)⟩
   cases hr:Region.ready .any ops listed with
   | nil=>rfl
   | cons i q=>
     have:i∈Region.ready .any ops listed:=by rw [hr];simp
     have:=(hch i).1 (mem_ready.1 this).1
     simp at this
 | succ m ih=>
   intro pend Rm pl done listed a w σ O vals fp hm inv hch hP hnd hnd2 hRm hRn htop hpl hdn hemp ho h hn
   have hcl : ∀k,listed.getD k false=true → ∀j∈(Eu ops).getD k [],listed.getD j false=true:=by
    intro k hk j hj
    by_cases hks:k<ops.size
    ·exact Gr inv hlt k ops[k] (by simp [hks]) (fun e he hb=>inv.closed k ops[k] (by simp [hks]) hk e he hb) j hj
    ·have:listed.getD k false=false:=by
      have hz:listed.size=ops.size:=inv.size
      simp [Array.getD,show ¬k<listed.size by omega]
     rw [this] at hk;cases hk
   have hne:Rm≠[]:=fun h0=>by rw [h0,hemp h0] at hm;simp at hm
   obtain ⟨ri,hri⟩ : ∃ri,ri∈Rm:=by
    cases Rm with
    | nil=>exact absurd rfl hne
    | cons r q=>exact ⟨r,by simp⟩
   have htop2:pl.isNil=false ∧ ∀x∈Rm,x∈pl.idx ∨ ∃y∈Rm,y∈(Eu ops).getD x []:=by
    cases Rm with
    | nil=>exact absurd rfl hne
    | cons r q=>
      simp only [Arj,Bool.and_eq_true,Bool.not_eq_true'] at htop
      refine ⟨htop.1,fun x hx=> ?_⟩
      have:=List.all_eq_true.1 htop.2 x hx
      simp only [Bool.or_eq_true] at this
      rcases this with h1 | h1
      ·exact .inl (by simpa using h1)
      ·obtain ⟨y,hy,h2⟩:=List.any_eq_true.1 h1
       exact .inr ⟨y,hy,by simpa using h2⟩
   obtain ⟨i0,x0,xs,ds0,nx0,ot0,hpl0⟩ : ∃i x xs ds nx ot,pl = .alt i x xs ds nx ot:=by
    cases pl with
    | nil=>cases htop2.1
    | alt i x xs ds nx ot=>exact ⟨i,x,xs,ds,nx,ot,rfl⟩
   have hlate:Amo A xs σ:=by rw [hpl0] at h;exact h.1.1
   have hst1:A.all (fun e=>xs.contains e.1 || done.any fun q=>((Eu ops).getD q []).contains e.1)=true:=by
    rw [hpl0] at hpl
    simp only [Abc,Bool.and_eq_true] at hpl
    exact hpl.1.1.1.1.2
   have pfit : ∀e∈pend,∃x oe,(e.1,x)∈A∧ops[e.1]? = some oe∧Adj x=true∧A9 P N oe x=true∧oe.guard=none∧oe.dst=some e.2.1∧e.2.1∉oe.looksAt ops ∧
     (∀f∈A,f.1≠e.1 → ∀g,ops[f.1]? = some g→e.1∈(Eu ops).getD f.1 []∨e.2.1∉g.looksAt ops) ∧
     (∀f∈R,f≠e.1 ∧ ∀g,ops[f]? = some g→e.1∈(Eu ops).getD f []∨oe.apart ops g=true):=by
    intro e he
    obtain ⟨⟨x,hx⟩,hd,_⟩:=hP e he
    have hf:=hA _ hx
    unfold W9 at hf
    simp only at hf
    cases hoe:ops[e.1]? with
    | none=>rw [hoe] at hf;cases hf
    | some oe=>
      rw [hoe] at hf hd
      simp only [Option.bind_some] at hd
      simp only [Bool.and_eq_true,hd] at hf
      obtain ⟨⟨⟨⟨h1,h2⟩,h3⟩,h4,h5⟩,h6⟩:=hf
      refine ⟨x,oe,hx,rfl,h1,h2,by simpa using h3,hd,by simpa using h4,?_,?_⟩
      ·intro f hf hne g hg
       have:=List.all_eq_true.1 h5 f hf
       simp only [hg,Bool.or_eq_true,beq_iff_eq,Bool.and_eq_true] at this
       rcases this with h7 | ⟨_,h7⟩
       ·exact absurd h7 hne
       ·rcases h7 with h7 | h7
        ·exact .inl (by simpa using h7)
        ·exact .inr (by simpa using h7)
      ·intro f hf
       have:=List.all_eq_true.1 h6 f hf
       simp only [Bool.and_eq_true,bne_iff_ne,Bool.or_eq_true] at this
       refine ⟨this.1,fun g hg=> ?_⟩
       have h7:=this.2
       rw [hg] at h7
       rcases h7 with h7 | h7
       ·exact .inl (by simpa using h7)
       ·exact .inr h7
   have pun : ∀e∈pend,listed.getD e.1 false=false:=fun e he=>getD_both ((hch e.1).2 (.inl (List.mem_map.2 ⟨e,he,rfl⟩)))
   refine ⟨fun h0=> ?_,fun i hi=> ?_⟩
   ·obtain ⟨i,hu,hj⟩:=Ahr (listed:=listed) ⟨ri,(hch ri).2 (.inr hri)⟩
    have his:i<ops.size:=by
     rw [←inv.size]
     rcases Nat.lt_or_ge i listed.size with h1 | h1
     ·exact h1
     ·simp [Array.getD,show ¬i<listed.size by omega] at hu
    have:i∈Region.ready .any ops listed:=mem_ready.2 ⟨hu,ops[i],by simp [his],fun e he hb=>by
     have h1:=hlt i ops[i] (by simp [his]) e he hb
     have h2:=hj _ h1
     cases hh:listed.getD e.on false with
     | true=>rfl
     | false=>exact absurd (getD_in (by rw [inv.size];omega) hh) h2⟩
    rw [h0] at this;cases this
   ·obtain ⟨hun,o,hoi,hall⟩:=mem_ready.1 hi
    have hbl:=Gr inv hlt i o hoi hall
    have his:i<ops.size:=(Array.getElem?_eq_some_iff.1 hoi).1
    rcases (hch i).1 hun with hip | hir
    ·-- something that has not been looked at yet
     obtain ⟨⟨i',d,v⟩,he,hei⟩:=List.mem_map.1 hip
     simp only at hei
     subst hei
     obtain ⟨x,oe,hxA,hoe,hlk,hfo,hg,hd,hself,hAA,hAR⟩:=pfit _ he
     simp only at hxA hoe hd hself hAA hAR
     rw [hoi] at hoe;cases hoe
     have hin:xs.contains i'=true:=by
      have:=List.all_eq_true.1 hst1 _ hxA
      simp only [Bool.or_eq_true] at this
      rcases this with h1 | h1
      ·exact h1
      ·obtain ⟨q,hq,hqb⟩:=List.any_eq_true.1 h1
       exact absurd (by simpa using hqb) (hdn _ he q hq)
     obtain ⟨d',r,hq,hL,hu⟩:=hlate _ hxA hin
     obtain ⟨hcalm,hu⟩:=Aqq hu
     obtain ⟨v',hrun,hrel,hd',hN⟩:=Ajs hlk hfo ho hq hcalm
     rw [hd] at hd';cases hd'
     have hvv:v'=v∨Al1 d σ=true:=by
      refine hu.imp (fun hu=> ?_) id
      have h1:=Ark hrel (Ar9 ho hL hu) hu
      rw [h1,ho.lo d hN]
      exact Asm he hnd2 (by have:=ho.sz;rw [Ap2] at this;rw [this];exact hN)
     have hex:execOp (Jz pend a).eval o=execOp a.eval o:=by
      refine Aq2 (ops:=ops) (fun cs b=>hsel i' o cs b hoi) fun e he2=> ?_
      by_cases hee:e.1=i'
      ·have hde:e.2.1=d:=by
        have h1:=(hP e he2).2.1
        rw [hee,hoi] at h1
        simp only [Option.bind_some] at h1
        rw [hd] at h1;cases h1;rfl
       rw [hde];exact hself
      ·obtain ⟨x2,oe2,_,_,_,_,_,_,_,hAA2,_⟩:=pfit e he2
       rcases hAA2 _ hxA (fun h1=>hee h1.symm) o hoi with h1 | h1
       ·have:=hbl e.1 h1
        rw [pun e he2] at this;cases this
       ·exact h1
     rw [hex] at hrun
     unfold wpOp
     rw [hoi]
     have hw:Region.wanted o (yielded ops a.tmps)=true:=by simp [Region.wanted,hg]
     simp only [hw,if_true,Oper.wp,hrun,Oper.upon]
     left
     obtain ⟨p1,p2,rfl⟩:=List.append_of_mem he
     rw [hd]
     simp only [List.map_append,List.map_cons] at hnd hnd2
     have hn1:=List.nodup_append.1 hnd
     have hn2:=List.nodup_append.1 hnd2
     have hi1 : ∀e∈p1,e.1≠i':=fun e he3=>hn1.2.2 e.1 (List.mem_map.2 ⟨e,he3,rfl⟩) i' (by simp)
     have hi2 : ∀e∈p2,e.1≠i':=fun e he3 h1=>(List.nodup_cons.1 hn1.2.1).1 (List.mem_map.2 ⟨e,he3,h1⟩)
     have hdd : ∀e∈p1,e.2.1≠d:=fun e he3=>hn2.2.2 e.2.1 (List.mem_map.2 ⟨e,he3,rfl⟩) d (by simp)
     have hdd2 : ∀e∈p2,e.2.1≠d:=fun e he3 h1=>(List.nodup_cons.1 hn2.2.1).1 (List.mem_map.2 ⟨e,he3,h1⟩)
     obtain ⟨vals',fp',hok,hsub⟩ : ∃vals' fp',Ok σ (Jz (p1++p2) (a.put (some d) v')) w O gv N vals' fp' ∧ ∀b,Sof fp' b→Sof fp b:=by
      rcases hvv with rfl | hnr
      ·exact ⟨vals,fp,by rw [Agv (i:=i') hdd];exact ho,fun _ hb=>hb⟩
      ·obtain ⟨fp1,ho1,hs1⟩:=ho.put_rel hN hrel
       refine ⟨upF vals d v',fp1,?_,hs1⟩
       have e1:(Jz (p1++(i',d,v)::p2) a).put (some d) v'=Jz (p1++p2) (a.put (some d) v'):=by
        rw [←Agv (i:=i') hdd,←Aq6 (fun e he3=>by
         rcases List.mem_append.1 he3 with h1 | h1
         ·exact hdd e h1
         ·exact hdd2 e h1)]
        congr 1
        simp [Act.put]
       rw [e1] at ho1
       exact { sim:=by rw [←Apu hL hnr];exact ho1.sim,lo:=ho1.lo,hi:=ho1.hi,sz:=ho1.sz,df:=ho1.df }
     refine ih (p1++p2) Rm pl done _ (a.put (some d) v') w σ O vals' fp' (by simp at hm ⊢;omega) (inv.set hi his) ?_ (fun e he3=>hP e (by
       rcases List.mem_append.1 he3 with h1 | h1
       ·simp [h1]
       ·simp [h1])) ?_ ?_ hRm hRn htop hpl (fun e he3=>hdn e (by
       rcases List.mem_append.1 he3 with h1 | h1
       ·simp [h1]
       ·simp [h1])) (fun h1=>absurd h1 hne) hok h (fun σ2 a2 w2 O2 vals2 fp2 k1 k2 k3=>hn σ2 a2 w2 O2 vals2 fp2 k1 k2 (k3.more hsub))
     ·intro j
      by_cases hji:i'=j
      ·subst hji
       have h1:(listed.setIfInBounds i' true).getD i' true=true:=by simp [show i'<listed.size by rw [inv.size];exact his]
       rw [h1]
       constructor
       ·intro h2;cases h2
       ·rintro (h2 | h2)
        ·obtain ⟨e,he3,h4⟩:=List.mem_map.1 h2
         rcases List.mem_append.1 he3 with h5 | h5
         ·exact absurd h4 (hi1 e h5)
         ·exact absurd h4 (hi2 e h5)
        ·exact absurd rfl (hAR i' (hRm i' h2)).1
      ·rw [getD_set_ne true hji,hch j]
       simp only [List.map_append,List.map_cons,List.mem_append,List.mem_cons]
       constructor
       ·rintro ((h1 | h1 | h1) | h1)
        ·exact .inl (.inl h1)
        ·exact absurd h1.symm hji
        ·exact .inl (.inr h1)
        ·exact .inr h1
       ·rintro ((h1 | h1) | h1)
        ·exact .inl (.inl h1)
        ·exact .inl (.inr (.inr h1))
        ·exact .inr h1
     ·rw [List.map_append]
      exact List.nodup_append.2 ⟨hn1.1,(List.nodup_cons.1 hn1.2.1).2,fun x hx y hy=>hn1.2.2 x hx y (by simp [hy])⟩
     ·rw [List.map_append]
      exact List.nodup_append.2 ⟨hn2.1,(List.nodup_cons.1 hn2.2.1).2,fun x hx y hy=>hn2.2.2 x hx y (by simp [hy])⟩
    ·-- one of the rest
     have hidx:i∈pl.idx:=by
      rcases htop2.2 i hir with h1 | ⟨y,hy,h1⟩
      ·exact h1
      ·have h3:=hbl y h1
       rw [getD_both ((hch y).2 (.inr hy))] at h3;cases h3
     obtain ⟨o',rx,ds,nx,ho',hfo,hg,htn,hlast,hpn,hop⟩:=Asw h hpl hidx
     rw [hoi] at ho';cases ho'
     have hnb : ∀e∈pend,e.1∉(Eu ops).getD i []:=fun e he h1=>by
      have:=hbl e.1 h1
      rw [pun e he] at this;cases this
     have hap : ∀e∈pend,∃oe,ops[e.1]? = some oe∧oe.dst=some e.2.1∧oe.guard=none∧oe.apart ops o=true:=by
      intro e he
      obtain ⟨x,oe,hxA,hoe,hlk,hfo2,hg2,hd,hself,hAA,hAR⟩:=pfit e he
      exact ⟨oe,hoe,hd,hg2,((hAR i (hRm i hir)).2 o hoi).resolve_left (hnb e he)⟩
     refine wpOp_mono (fun a1 w1 (hk : ∀a2,Jz pend a1=Jz pend a2→wpAny P .any ops Q m (listed.setIfInBounds i true) a2 w1)=>hk a1 rfl)
      (Aty (K:=fun b w1 => ∀a2,b=Jz pend a2→wpAny P .any ops Q m (listed.setIfInBounds i true) a2 w1) hoi hsel hQp hap ?_)
     unfold wpOp
     rw [hoi]
     have hw:Region.wanted o (yielded ops (Jz pend a).tmps)=true:=by simp [Region.wanted,hg]
     simp only [hw,if_true]
     left
     refine Ahf hfo ho hop ?_
     intro σ' b w1 O1 vals1 fp0 hk ho0 hm0 a2 hb
     subst hb
     obtain ⟨fp1,ho1,hs1⟩:=ho0.drop ds
     have hm1:=hm0.shrink hs1
     refine ih pend (Rm.erase i) nx (i::done) _ a2 w1 (Ho ds σ') O1 vals1 fp1 (by rw [List.length_erase_of_mem hir];have:=List.length_pos_of_mem hir;omega) (inv.set hi his) ?_ hP hnd hnd2 (fun e he=>hRm e (List.mem_of_mem_erase he)) (hRn.erase i) htn hpn ?_ ?_ ho1 hk (Hn.pre hn hm1)
     ·intro j
      by_cases hji:i=j
      ·subst hji
       have h1:(listed.setIfInBounds i true).getD i true=true:=by simp [show i<listed.size by rw [inv.size];exact his]
       rw [h1]
       constructor
       ·intro h2;cases h2
       ·rintro (h2 | h2)
        ·obtain ⟨e,he3,h4⟩:=List.mem_map.1 h2
         obtain ⟨x,oe,_,_,_,_,_,_,_,_,hAR⟩:=pfit e he3
         exact absurd h4.symm (hAR _ (hRm i hir)).1
        ·exact absurd rfl (hRn.mem_erase_iff.1 h2).1
      ·rw [getD_set_ne true hji,hch j]
       constructor
       ·rintro (h1 | h1)
        ·exact .inl h1
        ·exact .inr (hRn.mem_erase_iff.2 ⟨fun h=>hji h.symm,h1⟩)
       ·rintro (h1 | h1)
        ·exact .inl h1
        ·exact .inr (List.mem_of_mem_erase h1)
     ·intro e he q hq
      rcases List.mem_cons.1 hq with rfl | hq
      ·exact hnb e he
      ·exact hdn e he q hq
     ·intro h0
      cases hp:pend with
      | nil=>rfl
      | cons e q=>
        obtain ⟨⟨x,hx⟩,_⟩:=hP e (by rw [hp];simp)
        rw [h0] at hlast
        have h1:=List.all_eq_true.1 (hlast.resolve_left (by simp)) _ hx
        exact absurd (by simpa using h1) (hnb e (by rw [hp];simp))
theorem Anb {A0:List (Nat×AOp)} {K:St→Prop} : ∀(A:List (Nat×AOp)) (σ:St) (a:Act) (w:World) O vals fp,(∀e∈A,e∈A0)→(∀e∈A,∃o,ops[e.1]? = some o∧Adj e.2=true∧A9 P N o e.2=true) →
  Ok σ a w O gv N vals fp→Ir A K σ → ∃(pend:List (Nat×Nat×Value)) (σ':St) (vals':Nat→Value) (fp':Nat→List Nat),pend.map (·.1)=A.map (·.1) ∧
   (∀e∈pend,(∃x,(e.1,x)∈A0)∧(ops[e.1]?).bind (fun o:Oper=>o.dst)=some e.2.1∧e.2.1<N)∧Ok σ' (Jz pend a) w O gv N vals' fp'∧K σ' ∧ ∀b,Sof fp' b→Sof fp b:=by
 intro A
 induction A with
 | nil=>intro σ a w O vals fp _ _ ho h;exact ⟨[],σ,vals,fp,rfl,by simp,ho,h,fun _ hb=>hb⟩
 | cons e r ih=>
   intro σ a w O vals fp h0 hf ho h
   obtain ⟨i,x⟩:=e
   simp only [Ir] at h
   split at h
   case h_2=>exact h.elim
   rename_i d q hq
   obtain ⟨o,hoi,hlk,hfo⟩:=hf (i,x) (by simp)
   obtain ⟨v,hrun,hrel,hd,hN⟩:=Ajs hlk hfo ho hq h.1
   obtain ⟨fp1,ho1,hs1⟩:=ho.put_rel hN hrel
   obtain ⟨pend,σ',vals',fp',h1,h2,h3,h4,h5⟩:=ih _ _ w O _ fp1 (fun e he=>h0 e (by simp [he])) (fun e he=>hf e (by simp [he])) ho1 h.2
   refine ⟨(i,d,v)::pend,σ',vals',fp',by simp [h1],?_,h3,h4,fun b hb=>hs1 b (h5 b hb)⟩
   intro e he
   rcases List.mem_cons.1 he with rfl | he
   ·exact ⟨⟨x,h0 _ (by simp)⟩,by simp only at hoi ⊢;rw [hoi];simpa using hd,hN⟩
   ·exact h2 e he
theorem Aj3 {id:Nat} {σ:St} {a:Act} {w:World} {O vals fp} {A:List (Nat×AOp)} {pl:LPlan} {K:St→Prop} (hf:Atn P N ops A pl=true) (ho:Ok σ a w O gv N vals fp) (hQp : ∀c a w,¬Q (.panic c) a w)
  (h:Ir A (Lg P A K pl true) σ) (hn:Hn w O gv N fp K (Q .normal)):(Code.region id ops true).wp P Q a w:=by
 simp only [Atn,Bool.and_eq_true,decide_eq_true_eq] at hf
 obtain ⟨⟨⟨⟨⟨⟨⟨⟨hmix,hns⟩,hlen⟩,hlt⟩,hA⟩,hAn⟩,htop⟩,hpl⟩,hne⟩:=hf
 have hlt' : ∀(i:Nat) (o:Oper),ops[i]? = some o → ∀e∈o.after,Region.binds .any e=true→e.on<i:=by
  intro i o hi e he hb
  have hm:(o,i)∈ops.toList.zipIdx:=by
   rw [List.mem_iff_getElem?]
   exact ⟨i,by simp [List.getElem?_zipIdx,hi]⟩
  have h1:=List.all_eq_true.1 (List.all_eq_true.1 hlt _ hm) e (by simpa using he)
  simp only [Bool.or_eq_true,Bool.not_eq_true',decide_eq_true_eq] at h1
  rcases h1 with h1 | h1
  ·rw [hb] at h1;cases h1
  ·exact h1
 have hA':=List.all_eq_true.1 hA
 refine wp_region_any hmix ?_
 have hheap:Mv w O (Sof fp) { w with drawn:=w.drawn+1 } O (Sof fp):=⟨rfl,rfl,rfl,Nat.le_refl _,fun _ _ _=>⟨rfl,.rfl⟩,fun _ h=> .inl h⟩
 have ho1:Ok σ a { w with drawn:=w.drawn+1 } O gv N vals fp:=ho.world (fun b hb _=>⟨rfl,hb⟩) (fun b ⟨s,hs⟩=>⟨rfl,(ho.sim.fpO s b hs).1⟩)
 have hdst : ∀e∈A,∃o,ops[e.1]? = some o∧Adj e.2=true∧A9 P N o e.2=true:=by
  intro e he
  have h1:=hA' e he
  unfold W9 at h1
  split at h1
  ·rename_i o hoe
   simp only [Bool.and_eq_true] at h1
   exact ⟨o,hoe,h1.1.1.1.1,h1.1.1.1.2⟩
  ·cases h1
 obtain ⟨pend,σ',vals',fp',h1,h2,h3,h4,h5⟩:=Anb (P:=P) (ops:=ops) (A0:=A) A σ a _ O vals fp (fun _ h=>h) hdst ho1 h
 have hnd2:(pend.map (·.2.1)).Nodup:=by
  have key : ∀(p:List (Nat×Nat×Value)),(∀e∈p,e∈pend)→(p.map (·.1)).Nodup→(p.map (·.2.1)).Nodup:=by
   intro p
   induction p with
   | nil=>intro _ _;simp
   | cons e q ih=>
     intro hp hn
     simp only [List.map_cons,List.nodup_cons] at hn ⊢
     refine ⟨fun hm=> ?_,ih (fun e he=>hp e (by simp [he])) hn.2⟩
     obtain ⟨f,hf,hfe⟩:=List.mem_map.1 hm
     obtain ⟨⟨x,hx⟩,hde,_⟩:=h2 e (hp e (by simp))
     obtain ⟨⟨y,hy⟩,hdf,_⟩:=h2 f (hp f (by simp [hf]))
     have hfit:=hA' _ hx
     unfold W9 at hfit
     simp only at hfit
     cases hoe:ops[e.1]? with
     | none=>rw [hoe] at hfit;cases hfit
     | some oe=>
       rw [hoe] at hfit hde
       simp only [Option.bind_some] at hde
       simp only [Bool.and_eq_true,hde] at hfit
       have h7:=List.all_eq_true.1 hfit.1.2.2 _ hy
       simp only [Bool.or_eq_true,beq_iff_eq] at h7
       rcases h7 with h7 | h7
       ·exact hn.1 (List.mem_map.2 ⟨f,hf,h7⟩)
       ·cases hof:ops[f.1]? with
        | none=>rw [hof] at h7;cases h7
        | some og=>
          rw [hof] at h7 hdf
          simp only [Option.bind_some] at hdf
          simp only [Bool.and_eq_true,bne_iff_ne,hdf] at h7
          exact h7.1 (by rw [hfe])
  exact key pend (fun _ h=>h) (by rw [h1];exact hAn)
 have main:=Arn (P:=P) (ops:=ops) (gv:=gv) (N:=N) (Q:=Q) (A:=A) (R:=To ops A) (K:=K) (Region.noSelect_spec hns) hlt' hA' hQp (pend.length+(To ops A).length) pend (To ops A) pl [] (Array.replicate ops.size false) a _ σ' O vals' fp' rfl ?_ ?_ h2
  (by rw [h1];exact hAn) hnd2 (fun _ h=>h) (List.nodup_range.filter _) htop hpl (by simp) (fun hr=>by rw [hr] at hne;simp at hne) h3 h4 (Hn.pre hn (hheap.trans ((Mv.refl _ _ _).shrink h5)))
 ·have e:pend.length+(To ops A).length=ops.size:=by
   rw [←hlen]
   congr 1
   have:=congrArg List.length h1
   simpa using this
  rw [e] at main
  exact main
 ·refine ⟨by simp,fun j oj hj hl=> ?_,fun t ht hts=>by omega⟩
  rw [getD_replicate_false] at hl;cases hl
 intro i
 have hgd:(Array.replicate ops.size false).getD i true=false↔i<ops.size:=by
  by_cases h6:i<ops.size
  ·simp [Array.getD,h6]
  ·simp [Array.getD,h6]
 rw [hgd,h1]
 constructor
 ·intro h6
  by_cases h7:i∈A.map (·.1)
  ·exact .inl h7
  refine .inr ?_
  unfold To
  rw [List.mem_filter]
  exact ⟨List.mem_range.2 h6,by simpa using h7⟩
 rintro (h6 | h6)
 ·obtain ⟨e,he,rfl⟩:=List.mem_map.1 h6
  obtain ⟨o,hoe,_⟩:=hdst e he
  exact (Array.getElem?_eq_some_iff.1 hoe).1
 unfold To at h6
 exact List.mem_range.1 (List.mem_filter.1 h6).1
end
end Go.Proofs.YtbnoclklhcbidaaDoor.Ax
namespace Go.Proofs.YtbnoclklhcbidaaDoor.Ax
open Go
inductive Ex where
 | normal
 | exit (id:Nat)
 | ret
inductive ACode where
 | skip
 | reg (gs:List G)
 | dreg (pre:List (G×List Nat)) (post:List G)
 | dregp (n0:Nat) (ds:List Nat) (pre:List (G×List Nat)) (post:List G)
 | dregl (A:List (Nat×AOp)) (pl:LPlan)
 | seq (a b:ACode)
 | cond (x:X) (t e:ACode)
 | block (id:Nat) (c:ACode)
 | loop (c:ACode)
 | exit (id:Nat)
 | ret
 | drop (ds:List Nat) (c:ACode)
 | cut (c:ACode)
 | frz (ss:List Nat) (c:ACode)
def Vz (n:St→Prop) (Q:Ex→St→Prop):Ex→St→Prop
 | .normal,σ=>n σ
 | .exit i,σ=>Q (.exit i) σ
 | .ret,σ=>Q .ret σ
def Ajg (id:Nat) (Q:Ex→St→Prop):Ex→St→Prop
 | .normal,σ=>Q .normal σ
 | .exit i,σ=>if i=id then Q .normal σ else Q (.exit i) σ
 | .ret,σ=>Q .ret σ
def V5 (body:(Ex→St→Prop)→St→Prop) (ks:List Nat) (Q:Ex→St→Prop):Nat→St→Prop
 | 0,_=>False
 | n+1,σ=>body (Vz (fun σ'=>V5 body ks Q n (restrict ks σ')) Q) σ
def less (Q:Ex→St→Prop):Ex→St→Prop:=fun ex σ=>Q ex σ ∨ ∃ks,Q ex (restrict ks σ)
theorem Ahl {Q Q':Ex→St→Prop} (h : ∀e σ,Q e σ→Q' e σ) : ∀e σ,less Q e σ→less Q' e σ:=by
 rintro e σ (hq | ⟨ks,hq⟩)
 ·exact .inl (h _ _ hq)
 exact .inr ⟨ks,h _ _ hq⟩
def unP (r q:Nat) (w:List Nat) (u T':V) (σ:St):St:=(r,.val u)::erase r (turnP q T' w σ)
def Ari (r q:Nat) (w:List Nat) (σ:St):St:=match look σ q with
 | .val T=>match sub w T with
   | some u=>match upd w T .dead with
     | some T'=>unP r q w u T' σ
     | none=>σ
   | none=>σ
 | _=>σ
theorem Axh {a w O gv N vals fp} (r q c:Nat) (p:List Nat) {σ} (h:Ok σ a w O gv N vals fp) (hr:look σ r = .ref q (c::p)) : ∃fp',Ok (Ari r q (c::p) σ) a w O gv N vals fp'∧Mv w O (Sof fp) w O (Sof fp'):=by
 unfold Ari
 split
 case h_2=>exact ⟨fp,h,Mv.refl _ _ _⟩
 rename_i T hT
 split
 case h_2=>exact ⟨fp,h,Mv.refl _ _ _⟩
 rename_i u hu
 split
 case h_2=>exact ⟨fp,h,Mv.refl _ _ _⟩
 rename_i T' hT'
 have hrel:=h.sim.rel r (by simp [hr])
 rw [hr] at hrel
 obtain ⟨fp1,fpV,o1,rV,nV,dV,s1⟩:=Ht h hrel (show Fy σ (.ref q (c::p))=some (u,turnP q T' (c::p) σ) by simp [Fy,Fo,hT,hu,hT'])
 have hqr:q≠r:=fun e=>by subst e;rw [hr] at hT;cases hT
 have htop:look (turnP q T' (c::p) σ) r = .top:=by
  rw [Adl hT]
  simp only [if_neg (Ne.symm hqr),hr,A.mapR]
  have:Ya q (c::p) q (c::p)=none:=by
   unfold Ya
   rw [if_pos]
   refine ⟨rfl,?_⟩
   have key : ∀l:List Nat,Nn l l=true:=by
    intro l
    induction l with
    | nil=>rfl
    | cons x l ih=>simp [Nn,ih]
   exact key _
  rw [this]
 have hs:=o1.sim.put_own r u fpV htop rV nV (fun b hb s hbs=>(dV b hb).2 ⟨s,hbs⟩)
 have e:look (unP r q (c::p) u T' σ)=upF (look (turnP q T' (c::p) σ)) r (.val u):=by
  funext s
  unfold unP
  simp only [look,K9,upF]
  by_cases hs:r=s
  ·subst hs;simp
  ·rw [if_neg hs,if_neg (Ne.symm hs),if_neg (Ne.symm hs)]
 rw [←e] at hs
 refine ⟨_,⟨hs,h.lo,h.hi,h.sz,h.df⟩,(Mv.refl w O _).shrink ?_⟩
 rintro b ⟨t,hb⟩
 simp only [upF] at hb
 split at hb
 ·exact (dV b hb).1
 exact s1 b ⟨t,hb⟩
noncomputable def Arq (tv:Value) (s q c:Nat) (σ:St):St:=match look σ q with
 | .val T=>match sub [c] T with
   | some (.clov tv' f cs)=>match Classical.propDecidable (tv'=tv) with
     | .isTrue _=>(match upd [c] T .dead with
       | some T'=>Au s (.val (.clov tv' f cs)) (Au s .top (turnP q T' [c] σ))
       | none=>σ)
     | .isFalse _=>σ
   | _=>σ
 | _=>σ
theorem At0 {τ a w O gv N vals fp} {s:Nat} {U:V} {fpn:List Nat} (h:Ok τ a w O gv N vals fp) (hr:RdL w O [U] [vals s] fpn) (hnd:fpn.Nodup) (hdj : ∀b∈fpn,¬Sof fp b) :
  ∃fp',Ok (Au s (.val U) (Au s .top τ)) a w O gv N vals fp' ∧ ∀b,Sof fp' b→Sof fp b∨b∈fpn:=by
 have h1:=h.sim.put_top s (vals s)
 rw [Tc,←B9] at h1
 have h3:=h1.put_own s U fpn (by rw [B7];simp [upF,A.mapR]) hr hnd (fun b hb t ht=>by
  simp only [upF] at ht
  split at ht
  ·simp at ht
  ·exact hdj b hb ⟨t,ht⟩)
 have e:look (Au s (.val U) (Au s .top τ))=upF (look (Au s .top τ)) s (.val U):=by
  rw [B7]
  funext t
  simp only [upF,Gy]
  split
  ·rfl
  ·rename_i ht
   rw [B9]
   simp only [Gy,if_neg ht]
   generalize look τ t=x
   have key : ∀r l,At s 0 r l=none∨At s 0 r l=some r:=by intro r l;unfold At;split<;>simp
   exact Oa (At s 0) key x
 rw [←e] at h3
 refine ⟨_,⟨h3,h.lo,h.hi,h.sz,h.df⟩,?_⟩
 rintro b ⟨t,hb⟩
 simp only [upF] at hb
 split at hb
 ·exact .inr hb
 exact .inl ⟨t,hb⟩
theorem Avy {a w O gv N vals fp} {tv:Value} (s q c:Nat) {σ} (h:Ok σ a w O gv N vals fp) (hs:look σ s = .val (.raw tv)) : ∃fp',Ok (Arq tv s q c σ) a w O gv N vals fp'∧Mv w O (Sof fp) w O (Sof fp'):=by
 unfold Arq
 split
 case h_2=>exact ⟨fp,h,Mv.refl _ _ _⟩
 rename_i T hT
 split
 case h_2=>exact ⟨fp,h,Mv.refl _ _ _⟩
 rename_i tv' f cs hu
 split
 case h_2=>exact ⟨fp,h,Mv.refl _ _ _⟩
 rename_i etv _
 split
 case h_2=>exact ⟨fp,h,Mv.refl _ _ _⟩
 rename_i T' hT'
 subst etv
 have hvs:vals s=tv':=by
  have key : ∀ {v:Value} {fq},RdL w O [.raw tv'] [v] fq→v=tv':=by
   intro v fq hh
   cases hh with
   | leaf hl _=>cases hl;rfl
   | grp hg _ _=>cases hg
   | fblk hh _ _ _ _=>cases hh
   | oblk hh _ _ _ _ _=>cases hh
  exact key (h.sim.own s _ hs)
 obtain ⟨x,_,_,_,_,hx,hru,_⟩:=ctx [c] (h.sim.own q T hT) hu
 have hxv:x=vals s:=by rw [hvs];exact Ao2 hru
 subst hxv
 have hrel:RelL w O (look σ) vals [.ref q [c]] [vals s]:= .ref hT hu hx .nil
 obtain ⟨fp1,fpV,o1,rV,nV,dV,s1⟩:=Ht h hrel (show Fy σ (.ref q (c::[]))=some (.clov tv' f cs,turnP q T' (c::[]) σ) by simp [Fy,Fo,hT,hu,hT'])
 obtain ⟨fp',o2,s2⟩:=At0 o1 rV nV (fun b hb=>(dV b hb).2)
 refine ⟨fp',o2,(Mv.refl w O _).shrink ?_⟩
 intro b hb
 rcases s2 b hb with h1 | h1
 ·exact s1 b h1
 exact (dV b h1).1
noncomputable def Pl (e:Nat) (σ:St):St:=match look σ (e%100000) with
 | .val (.raw tv)=>Arq tv (e%100000) ((e/100000-1000)/100) (e/100000%100) σ
 | .ref q (c::p)=>(match Nat.beq (e/100000) 900 with
   | true=>Ari (e%100000) q (c::p) σ
   | false=>σ)
 | .ref q []=>(match look σ q with
   | .val V=>(match Nat.blt q 100000 with
     | true=>Au (e%100000) (.val V.fz) (Au (e%100000) .top (Au q (.val V.fz) (Au q .top σ)))
     | false=>σ)
   | _=>σ)
 | _=>Aan e σ
noncomputable def Ars:List Nat→St→St
 | [],σ=>σ
 | s::r,σ=>Ars r (Pl s σ)
def awp (P:Program):ACode→(Ex→St→Prop)→St→Prop
 | .skip,Q,σ=>Q .normal σ
 | .reg gs,Q,σ=>Eh P gs (Q .normal) σ
 | .dreg pre post,Q,σ=>E8 P (Oh pre) σ pre [] [] [] fun σ'=>Eh P post (Q .normal) σ'
 | .dregp n0 ds pre post,Q,σ=>Eh P ((pre.take n0).map (·.1)) (fun σ1=>Yl n0 (Ho ds σ1)=true∧E8 P (Oh pre) (Ho ds σ1) (pre.drop n0) (Rb n0) (List.replicate n0 []) (List.replicate n0 []) fun σ'=>Eh P post (Q .normal) σ') σ
 | .dregl A pl,Q,σ=>Ir A (Lg P A (Q .normal) pl true) σ
 | .seq a b,Q,σ=>awp P a (Vz (awp P b Q) Q) σ
 | .cond x t e,Q,σ=>match Ai σ x with
   | .val (.bool b)=>(b=true→awp P t Q σ)∧(b=false→awp P e Q σ)
   | _=>False
 | .block id c,Q,σ=>awp P c (Ajg id Q) σ
 | .loop c,Q,σ => ∃ks n,V5 (awp P c) ks (less Q) n (restrict ks σ)
 | .exit id,Q,σ=>Q (.exit id) σ
 | .ret,Q,σ=>Q .ret σ
 | .drop ds c,Q,σ=>awp P c Q (Ho ds σ)
 | .cut c,Q,σ=>awp P c (less Q) σ
 | .frz ss c,Q,σ=>awp P c Q (Ars ss σ)
def Fn (P:Program) (N:Nat):ACode→Code→Bool
 | .skip,.skip=>true
 | .reg gs,.region _ ops false=>Dd P N ops gs ops.toList
 | .dreg pre post,.region _ ops true=>Adv P N ops pre post
 | .dregp n0 _ pre post,.region _ ops true=>Amy P N ops n0 pre post
 | .dregl A R,.region _ ops true=>Atn P N ops A R
 | .seq a b,.seq c d=>Fn P N a c&&Fn P N b d
 | .cond x t e,.cond o c d=>Av N x o&&Fn P N t c&&Fn P N e d
 | .block i c,.block j d=>i==j&&Fn P N c d
 | .loop c,.loop d=>Fn P N c d
 | .exit i,.exit j=>i==j
 | .ret,.ret=>true
 | .drop _ c,d=>Fn P N c d
 | .cut c,d=>Fn P N c d
 | .frz _ c,d=>Fn P N c d
 | _,_=>false
def Wl:Exit→Option Ex
 | .normal=>some .normal
 | .exit i=>some (.exit i)
 | .ret=>some .ret
 | _=>none
def Wp (w:World) (O:Nat→Prop) (gv:Nat→Value) (N:Nat) (fp:Nat→List Nat) (Q:Ex→St→Prop):Exit→Act→World→Prop:=fun e a' w'=>
 ∃ex σ' O' vals' fp',Wl e=some ex∧Q ex σ'∧Ok σ' a' w' O' gv N vals' fp'∧Mv w O (Sof fp) w' O' (Sof fp')
theorem Wp.pre {w O gv N fp Q w1 O1 fp1 e a' w'} (hm:Mv w O (Sof fp) w1 O1 (Sof fp1)) (h:Wp w1 O1 gv N fp1 Q e a' w'):Wp w O gv N fp Q e a' w':=by
 obtain ⟨ex,σ',O',vals',fp',h1,h2,h3,h4⟩:=h
 exact ⟨ex,σ',O',vals',fp',h1,h2,h3,hm.trans h4⟩
theorem Wp.less {w O gv N fp Q e a' w'} (h:Wp w O gv N fp (less Q) e a' w'):Wp w O gv N fp Q e a' w':=by
 obtain ⟨ex,σ',O',vals',fp',h1,h2,h3,h4⟩:=h
 rcases h2 with h2 | ⟨ks,h2⟩
 ·exact ⟨ex,σ',O',vals',fp',h1,h2,h3,h4⟩
 obtain ⟨fp2,ho2,hs2⟩:=h3.restrict ks
 exact ⟨ex,_,O',vals',fp2,h1,h2,ho2,h4.shrink hs2⟩
theorem Awb {τ a w O gv N vals fp} {s:Nat} {U:V} (h:Ok τ a w O gv N vals fp) (hr:RdL w O [U] [vals s] []) : ∃fp',Ok (Au s (.val U) (Au s .top τ)) a w O gv N vals fp'∧Mv w O (Sof fp) w O (Sof fp'):=by
 have h1:=h.sim.put_top s (vals s)
 rw [Tc,←B9] at h1
 have h3:=h1.put_own s U [] (by rw [B7];simp [upF,A.mapR]) hr (by simp) (by simp)
 have e:look (Au s (.val U) (Au s .top τ))=upF (look (Au s .top τ)) s (.val U):=by
  rw [B7]
  funext t
  simp only [upF,Gy]
  split
  ·rfl
  ·rename_i ht
   rw [B9]
   simp only [Gy,if_neg ht]
   generalize look τ t=x
   have key : ∀r l,At s 0 r l=none∨At s 0 r l=some r:=by intro r l;unfold At;split<;>simp
   exact Oa (At s 0) key x
 rw [←e] at h3
 refine ⟨_,⟨h3,h.lo,h.hi,h.sz,h.df⟩,(Mv.refl w O _).shrink ?_⟩
 rintro b ⟨t,hb⟩
 simp only [upF] at hb
 split at hb
 ·simp at hb
 exact ⟨t,hb⟩
theorem At4 {a w gv N vals} (e:Nat) {σ O fp} (h:Ok σ a w O gv N vals fp) : ∃O' fp',Ok (Pl e σ) a w O' gv N vals fp'∧Mv w O (Sof fp) w O' (Sof fp'):=by
 unfold Pl
 split
 ·rename_i tv hL
  obtain ⟨fp',h1,h2⟩:=Avy (e%100000) ((e/100000-1000)/100) (e/100000%100) h hL
  exact ⟨O,fp',h1,h2⟩
 ·rename_i q c p hL
  split
  ·obtain ⟨fp',h1,h2⟩:=Axh (e%100000) q c p h hL
   exact ⟨O,fp',h1,h2⟩
  exact ⟨O,fp,h,Mv.refl _ _ _⟩
 case h_4=>exact W8 e h
 rename_i q hL
 split
 case h_2=>exact ⟨O,fp,h,Mv.refl _ _ _⟩
 rename_i V hV
 split
 case h_2=>exact ⟨O,fp,h,Mv.refl _ _ _⟩
 rename_i hq
 have hq:q<100000:=Nat.blt_eq▸hq
 generalize e%100000=s at hL
 have hr:=h.sim.rel s (by simp [hL])
 rw [hL] at hr
 have hv:vals q=vals s:=by
  cases hr with
  | ref _ _ hv _=>simpa [Ck] using hv
 obtain ⟨O1,fp1,h1,m1⟩:=W8 q h
 have e1:Aan q σ=Au q (.val V.fz) (Au q .top σ):=by
  unfold Aan
  rw [Nat.mod_eq_of_lt hq,Nat.div_eq_of_lt hq,hV]
  simp only [Ak]
 rw [e1] at h1
 have hl:look (Au q (.val V.fz) (Au q .top σ)) q = .val V.fz:=by rw [B7];simp [upF,A.mapR]
 have r1:=h1.sim.own q _ hl
 have e2:fp1 q=[]:=r1.noOwn (by simp [Ba,Alo])
 rw [e2,hv] at r1
 obtain ⟨fp2,h2,m2⟩:=Awb h1 r1
 exact ⟨O1,fp2,h2,m1.trans m2⟩
theorem Aun {a w gv N vals} : ∀(ss:List Nat) {σ O fp},Ok σ a w O gv N vals fp → ∃O' fp',Ok (Ars ss σ) a w O' gv N vals fp'∧Mv w O (Sof fp) w O' (Sof fp'):=by
 intro ss
 induction ss with
 | nil=>intro σ O fp h;exact ⟨O,fp,h,Mv.refl _ _ _⟩
 | cons s r ih=>
   intro σ O fp h
   obtain ⟨O1,fp1,h1,m1⟩:=At4 s h
   obtain ⟨O2,fp2,h2,m2⟩:=ih h1
   exact ⟨O2,fp2,h2,m1.trans m2⟩
theorem Am5 {P:Program} {N:Nat} {c:ACode} {d:Code} {ks:List Nat} {gv:Nat→Value}
  (ih : ∀ {Q:Ex→St→Prop} {σ a w O vals fp},awp P c Q σ→Ok σ a w O gv N vals fp→d.wp P (Wp w O gv N fp Q) a w) {Q:Ex→St→Prop} :
  ∀n σ a w O vals fp,V5 (awp P c) ks Q n σ→Ok σ a w O gv N vals fp→(Code.loop d).wp P (Wp w O gv N fp Q) a w:=by
 intro n σ a w O vals fp hl ho
 have key : ∀n σ a w O vals fp,V5 (awp P c) ks Q n σ→Ok σ a w O gv N vals fp → ∀(b:Frame) (k:List Item) (cs:List Frame),
   ∃e a' w',Wp w O gv N fp Q e a' w'∧Arrives P (lone (b.at a (.code d :: .inLoop d::k)) cs w) b k cs e a' w':=by
  intro n
  induction n with
  | zero=>intro σ a w O vals fp hl;exact hl.elim
  | succ n ihn=>
    intro σ a w O vals fp hl ho b k cs
    obtain ⟨e,a1,w1,⟨ex,σ1,O1,vals1,fp1,he,hq,ho1,hm1⟩,harr⟩:=ih hl ho b (.inLoop d::k) cs
    cases e with
    | normal=>
      simp only [Wl,Option.some.injEq] at he;subst he
      obtain ⟨fp2,ho2,hs2⟩:=ho1.restrict ks
      obtain ⟨e2,a2,w2,hq2,harr2⟩:=ihn _ _ _ _ _ _ hq ho2 b k cs
      exact ⟨e2,a2,w2,Wp.pre (hm1.shrink hs2) hq2,.of_steps (Steps.trans harr (.one step_inLoop)) harr2⟩
    | exit i=>
      simp only [Wl,Option.some.injEq] at he;subst he
      exact ⟨.exit i,a1,w1,⟨_,_,_,_,_,rfl,hq,ho1,hm1⟩,.pass (x:= .inLoop d) rfl (fun _ _=> .inl (by simp)) harr⟩
    | ret=>
      simp only [Wl,Option.some.injEq] at he;subst he
      exact ⟨.ret,a1,w1,⟨_,_,_,_,_,rfl,hq,ho1,hm1⟩,.pass (x:= .inLoop d) rfl (fun _ _=> .inl (by simp)) harr⟩
    | goto l=>simp [Wl] at he
    | panic ch=>simp [Wl] at he
    | outgrown=>simp [Wl] at he
 intro b k cs
 obtain ⟨e,a',w',hq,harr⟩:=key n σ a w O vals fp hl ho b k cs
 exact ⟨e,a',w',hq,.of_steps (.one step_loop) harr⟩
theorem Aq0 {P:Program} {N:Nat} {gv:Nat→Value} : ∀(c:ACode) {d:Code},Fn P N c d=true → ∀ {Q:Ex→St→Prop} {σ a w O vals fp},awp P c Q σ→Ok σ a w O gv N vals fp →
  d.wp P (Wp w O gv N fp Q) a w:=by
 intro c
 induction c with
 | skip=>
   intro d hf Q σ a w O vals fp h ho
   cases d<;>simp [Fn] at hf
   exact wp_skip ⟨_,_,_,_,_,rfl,h,ho,Mv.refl _ _ _⟩
 | exit i=>
   intro d hf Q σ a w O vals fp h ho
   cases d<;>simp [Fn] at hf
   subst hf
   exact wp_exit ⟨_,_,_,_,_,rfl,h,ho,Mv.refl _ _ _⟩
 | ret=>
   intro d hf Q σ a w O vals fp h ho
   cases d<;>simp [Fn] at hf
   exact wp_ret ⟨_,_,_,_,_,rfl,h,ho,Mv.refl _ _ _⟩
 | reg gs=>
   intro d hf Q σ a w O vals fp h ho
   cases d with
   | region id ops draw=>
     cases draw with
     | true=>simp [Fn] at hf
     | false=>
       exact wp_region_list (Agy hf ho h fun σ' a' w' O' vals' fp' hk ho' hm=>⟨_,_,_,_,_,rfl,hk,ho',hm⟩)
   | _=>simp [Fn] at hf
 | dreg pre post=>
   intro d hf Q σ a w O vals fp h ho
   cases d with
   | region id ops draw=>
     cases draw with
     | false=>simp [Fn] at hf
     | true=>
       exact Anv hf ho (by rintro c a w ⟨_,_,_,_,_,h1,_⟩;cases h1) h fun σ' a' w' O' vals' fp' hk ho' hm=>⟨_,_,_,_,_,rfl,hk,ho',hm⟩
   | _=>simp [Fn] at hf
 | dregp n0 ds pre post=>
   intro d hf Q σ a w O vals fp h ho
   cases d with
   | region id ops draw=>
     cases draw with
     | false=>simp [Fn] at hf
     | true=>
       exact Aku hf ho (by rintro c a w ⟨_,_,_,_,_,h1,_⟩;cases h1) h fun σ' a' w' O' vals' fp' hk ho' hm=>⟨_,_,_,_,_,rfl,hk,ho',hm⟩
   | _=>simp [Fn] at hf
 | dregl A R=>
   intro d hf Q σ a w O vals fp h ho
   cases d with
   | region id ops draw=>
     cases draw with
     | false=>simp [Fn] at hf
     | true=>
       exact Aj3 hf ho (by rintro c a w ⟨_,_,_,_,_,h1,_⟩;cases h1) h fun σ' a' w' O' vals' fp' hk ho' hm=>⟨_,_,_,_,_,rfl,hk,ho',hm⟩
   | _=>simp [Fn] at hf
 | seq x y ih1 ih2=>
   intro d hf Q σ a w O vals fp h ho
   cases d<;>simp [Fn] at hf
   refine wp_seq (wp_mono (ih1 hf.1 h ho) ?_)
   rintro e a' w' ⟨ex,σ',O',vals',fp',he,hq,ho',hm⟩
   cases e<;>simp [Wl] at he<;>subst he
   ·exact wp_mono (ih2 hf.2 hq ho') fun _ _ _=>Wp.pre hm
   ·exact ⟨_,_,_,_,_,rfl,hq,ho',hm⟩
   ·exact ⟨_,_,_,_,_,rfl,hq,ho',hm⟩
 | cond x t e ih1 ih2=>
   intro d hf Q σ a w O vals fp h ho
   cases d<;>simp [Fn] at hf
   obtain ⟨⟨hx,ht⟩,he⟩:=hf
   simp only [awp] at h
   split at h
   case h_2=>exact h.elim
   rename_i b hb
   have hr:=Aq ho hx
   rw [hb] at hr
   refine wp_cond_split (t:=b) (by cases hr with | val _ hr _=>exact D6 hr) (fun hb=>ih1 ht (h.1 hb) ho) (fun hb=>ih2 he (h.2 hb) ho)
 | block i c ih=>
   intro d hf Q σ a w O vals fp h ho
   cases d<;>simp [Fn] at hf
   obtain ⟨rfl,hc⟩:=hf
   refine wp_block (wp_mono (ih hc h ho) ?_)
   rintro e a' w' ⟨ex,σ',O',vals',fp',he,hq,ho',hm⟩
   cases e<;>simp [Wl] at he<;>subst he
   ·exact ⟨_,_,_,_,_,rfl,hq,ho',hm⟩
   ·rename_i i
    simp only [Exit.inBlock]
    simp only [Ajg] at hq
    split at hq
    ·rename_i hi
     rw [if_pos hi];exact ⟨_,_,_,_,_,rfl,hq,ho',hm⟩
    ·rename_i hi
     rw [if_neg hi];exact ⟨_,_,_,_,_,rfl,hq,ho',hm⟩
   ·exact ⟨_,_,_,_,_,rfl,hq,ho',hm⟩
 | loop c ih=>
   intro d hf Q σ a w O vals fp h ho
   cases d<;>simp [Fn] at hf
   obtain ⟨ks,n,hl⟩:=h
   obtain ⟨fp2,ho2,hs2⟩:=ho.restrict ks
   refine wp_mono (Am5 (ks:=ks) (fun h1 h2=>ih hf h1 h2) n _ a w O vals fp2 hl ho2) ?_
   intro e a' w' hh
   exact (Wp.pre ((Mv.refl _ _ _).shrink hs2) hh).less
 | cut c ih=>
   intro d hf Q σ a w O vals fp h ho
   have hf':Fn P N c d=true:=by cases d<;>exact hf
   exact wp_mono (ih hf' h ho) fun e a' w' hh=>hh.less
 | frz ss c ih=>
   intro d hf Q σ a w O vals fp h ho
   have hf':Fn P N c d=true:=by cases d<;>exact hf
   obtain ⟨O2,fp2,ho2,hm2⟩:=Aun ss ho
   exact wp_mono (ih hf' h ho2) fun e a' w' hh=>Wp.pre hm2 hh
 | drop ds c ih=>
   intro d hf Q σ a w O vals fp h ho
   have hf':Fn P N c d=true:=by cases d<;>exact hf
   obtain ⟨fp2,ho2,hs2⟩:=ho.drop ds
   exact wp_mono (ih hf' h ho2) fun e a' w' hh=>Wp.pre ((Mv.refl _ _ _).shrink hs2) hh
end Go.Proofs.YtbnoclklhcbidaaDoor.Ax
namespace Go.Proofs.YtbnoclklhcbidaaDoor.Ax
open Go
def entry (N:Nat):Nat→List V→St
 | _,[]=>[]
 | i,v::r=>if v.hasOwn then (i,.ref (N+i) [])::(N+i,.val v)::entry N (i+1) r else (i,.val v)::entry N (i+1) r
theorem Aqe {w:World} {O:Nat→Prop} {vals:Nat→Value} {N:Nat} : ∀ {args:List V} {i:Nat} {us:List Value} {fp:List Nat},RdL w O args us fp→fp.Nodup→i+args.length≤N →
  (∀j u,us[j]? = some u→vals (i+j)=u∧vals (N+i+j)=u) →
  ∃fpf,Sim w O (look (entry N i args)) vals fpf∧(∀b,Sof fpf b→b∈fp)∧(∀s,s<i→look (entry N i args) s = .top)∧(∀s,N≤s→s<N+i→look (entry N i args) s = .top):=by
 intro args
 induction args with
 | nil=>
   intro i us fp h _ _ _
   refine ⟨fun _=>[],⟨?_,fun _ _=>rfl,?_,by simp,by simp⟩,?_,fun _ _=>rfl,fun _ _ _=>rfl⟩
   ·intro s V hL;simp [entry,look] at hL
   ·intro s _;exact .top .nil
   ·rintro b ⟨s,hs⟩;simp at hs
 | cons v r ih=>
   intro i us fp h hnd hN hv
   obtain ⟨u,us2,f1,f2,rfl,rfl,h1,h2⟩:=h.cons_split
   have nd:=List.nodup_append.1 hnd
   simp at hN
   have hu:=hv 0 u (by simp)
   simp at hu
   obtain ⟨fpf,hs,hsub,ht1,ht2⟩:=ih (i:=i+1) h2 nd.2.1 (by omega) (by
    intro j x hx
    have:=hv (j+1) x (by simpa using hx)
    rw [show i+1+j=i+(j+1) by omega,show N+(i+1)+j=N+i+(j+1) by omega];exact this)
   by_cases ho:v.hasOwn=true
   ·have s1:=hs.put_own (N+i) v f1 (ht2 _ (by omega) (by omega)) (by rw [hu.2];exact h1) nd.1 (by
     intro b hb s hbs
     exact nd.2.2 b hb b (hsub b ⟨s,hbs⟩) rfl)
    have s2:=s1.put_rel i (.ref (N+i) []) (by simp only [upF];rw [if_neg (by omega)];exact ht1 i (by omega)) (.ref (V:=v) (u:=v) (by simp [upF]) rfl (by simp [Ck,hu.1,hu.2]) .nil)
    have e:look (entry N i (v::r))=upF (upF (look (entry N (i+1) r)) (N+i) (.val v)) i (.ref (N+i) []):=by
     funext s
     simp only [entry,ho,if_true,look,upF]
     by_cases hsi:s=i
     ·subst hsi;simp
     ·rw [if_neg (Ne.symm hsi),if_neg hsi]
      by_cases hsn:s=N+i
      ·subst hsn;simp
      ·rw [if_neg (Ne.symm hsn),if_neg hsn]
    rw [e]
    refine ⟨_,s2,?_,?_,?_⟩
    ·rintro b ⟨s,hb⟩
     simp only [upF] at hb
     split at hb
     ·simp [hb]
     ·simp [hsub b ⟨s,hb⟩]
    ·intro s hs'
     simp only [upF];rw [if_neg (by omega),if_neg (by omega)];exact ht1 s (by omega)
    ·intro s hs1 hs2
     simp only [upF];rw [if_neg (by omega),if_neg (by omega)];exact ht2 s hs1 (by omega)
   ·have hn:v.hasOwn=false:=by simpa using ho
    have hf1:f1=[]:=h1.noOwn (by simp [Ba,hn])
    subst hf1
    have s2:=hs.put_rel i (.val v) (ht1 i (by omega)) (.val hn (by rw [hu.1];exact h1) .nil)
    have e:look (entry N i (v::r))=upF (look (entry N (i+1) r)) i (.val v):=by
     funext s
     simp only [entry,hn,upF]
     by_cases hsi:s=i
     ·subst hsi;simp [look]
     ·simp [look,hsi,Ne.symm hsi]
    rw [e]
    refine ⟨_,s2,?_,?_,?_⟩
    ·intro b hb;simp [hsub b hb]
    ·intro s hs'
     simp only [upF];rw [if_neg (by omega)];exact ht1 s (by omega)
    ·intro s hs1 hs2
     simp only [upF];rw [if_neg (by omega)];exact ht2 s hs1 (by omega)
inductive RS where
 | t (s:Nat)
 | c (s n:Nat) (ag:Bool)
def Ar0 (σ:St):RS→Option A
 | .t s=>some (Ai σ (.t s))
 | .c s n ag=>match Ez σ (Ai σ (.t s)) with
   | some l=>Sn σ n ag l
   | none=>none
def Ant (σ:St):List RS→Option (List V×St)
 | []=>some ([],σ)
 | x::r=>match Ar0 σ x with
   | some y=>match Fy σ y with
     | some (v,σ1)=>match Ant σ1 r with
       | some (vs,σ2)=>some (v::vs,σ2)
       | none=>none
     | none=>none
   | none=>none
def Ka (P:Program) (N:Nat):List RS→List ResultVar→Bool
 | [],[]=>true
 | .t s::r,.tmp s'::rs=>s==s'&&decide (s<N)&&Ka P N r rs
 | .c s n ag::r,.cell s' t::rs=>s==s'&&decide (s<N)&&Mh P t n ag&&Ka P N r rs
 | _,_=>false
def Xc (tmps:Array Value):ResultVar→Sem Value
 | .tmp t=>pure (tmps.getD t undef)
 | .cell a t=>do loadVar t (←asAddr (tmps.getD a undef))
theorem Auc {P:Program} {a w O gv N vals} : ∀ {rs:List RS} {vars:List ResultVar} {σ fp Vs σ'},Ok σ a w O gv N vals fp→Ka P N rs vars=true→Ant σ rs=some (Vs,σ') →
  ∃us fp' fpV,(vars.mapM (Xc a.tmps)).run P w = .ok us w∧Ok σ' a w O gv N vals fp'∧RdL w O Vs us fpV∧fpV.Nodup∧(∀b∈fpV,Sof fp b∧¬Sof fp' b)∧(∀b,Sof fp' b→Sof fp b):=by
 intro rs
 induction rs with
 | nil=>
   intro vars σ fp Vs σ' h hf ht
   cases vars<;>simp [Ka] at hf
   simp [Ant] at ht;obtain ⟨rfl,rfl⟩:=ht
   exact ⟨[],fp,[],by simp,h,.nil,by simp,by simp,fun _=>id⟩
 | cons x r ih=>
   intro vars σ fp Vs σ' h hf ht
   cases vars with
   | nil=>cases x<;>simp [Ka] at hf
   | cons y ys=>
     simp only [Ant] at ht
     split at ht
     case h_2=>cases ht
     rename_i A hA
     split at ht
     case h_2=>cases ht
     rename_i v σ1 h1
     split at ht
     case h_2=>cases ht
     rename_i vs σ2 h2
     cases ht
     obtain ⟨u,hrun,hrel,hrest⟩ : ∃u,(Xc a.tmps y).run P w = .ok u w∧RelL w O (look σ) vals [A] [u]∧Ka P N r ys=true:=by
      cases x with
      | t s=>
        cases y with
        | tmp s'=>
          simp only [Ka,Bool.and_eq_true,beq_iff_eq,decide_eq_true_eq] at hf
          obtain ⟨⟨rfl,hs⟩,hr⟩:=hf
          simp only [Ar0,Option.some.injEq] at hA;subst hA
          exact ⟨_,rfl,Aq (o:= .tmp s) h (by simp [Av,hs]),hr⟩
        | cell=>simp [Ka] at hf
      | c s n ag=>
        cases y with
        | tmp s'=>simp [Ka] at hf
        | cell s' t=>
          simp only [Ka,Bool.and_eq_true,beq_iff_eq,decide_eq_true_eq] at hf
          obtain ⟨⟨⟨rfl,hs⟩,hty⟩,hr⟩:=hf
          simp only [Ar0] at hA
          split at hA
          case h_2=>cases hA
          rename_i l hl
          have hlr:=Jl h (Aq (o:= .tmp s) h (by simp [Av,hs])) hl
          obtain ⟨u,k1,k2⟩:=Ad3 h hty hlr hA
          obtain ⟨b,c,hv,_⟩:=Nr 0 hlr
          have hv':a.tmps.getD s undef = .pointer (some ⟨b,c,none⟩):=hv
          have k1':(Instr.loadAt t (a.tmps.getD s undef)).run P w = .ok u w:=k1
          rw [hv'] at k1'
          refine ⟨u,?_,k2,hr⟩
          simp only [Xc,hv',asAddr,Sem.run_bind,Sem.run_pure,Result.andThen_ok]
          simpa [Instr.loadAt,Instr.sureAddr] using k1'
     obtain ⟨fp1,f1,o1,r1,n1,d1,s1⟩:=Ht h hrel h1
     obtain ⟨us,fp2,f2,hm,o2,r2,n2,d2,s2⟩:=ih o1 hrest h2
     refine ⟨u::us,fp2,f1++f2,by simp [List.mapM_cons,hrun,hm],o2,r1.append r2,?_,?_,fun b hb=>s1 b (s2 b hb)⟩
     ·refine List.nodup_append.2 ⟨n1,n2,?_⟩
      rintro b hb c hc rfl
      exact (d1 b hb).2 (d2 b hc).1
     ·intro b hb
      rcases List.mem_append.1 hb with hb | hb
      ·exact ⟨(d1 b hb).1,fun hh=>(d1 b hb).2 (s2 b hh)⟩
      ·exact ⟨s1 b (d2 b hb).1,(d2 b hb).2⟩
def Ah:List V→V
 | [v]=>v
 | vs=> .tup vs
def Awz (σ:St) (s:Nat):Option (V×St):=match look σ s with
 | .val _=>Fo σ (.ref s [])
 | .agg as=>Fy σ (.agg as)
 | _=>none
def Q0 (N:Nat):St→Nat→List V→List V
 | _,_,[]=>[]
 | σ,i,v::r=>match v.hasOwn with
   | true=>(match Awz σ (N+i) with
     | some (U,σ1)=>U::Q0 N σ1 (i+1) r
     | none=> .dead::Q0 N σ (i+1) r)
   | false=> .dead::Q0 N σ (i+1) r
theorem Auk {σ a w O gv N vals fp s U σ'} (h:Ok σ a w O gv N vals fp) (ht:Awz σ s=some (U,σ')) :
  ∃fp' fpV,Ok σ' a w O gv N vals fp'∧RdL w O [U] [vals s] fpV∧fpV.Nodup∧(∀b∈fpV,Sof fp b∧¬Sof fp' b)∧(∀b,Sof fp' b→Sof fp b):=by
 unfold Awz at ht
 split at ht
 ·exact P9 h (x:= .ref s []) (by simp [Pre,Ck]) ht
 ·rename_i as hL
  have hr:=h.sim.rel s (by simp [hL])
  rw [hL] at hr
  exact Ht h hr ht
 cases ht
theorem Auh {a w O gv N vals} : ∀ {args:List V} {i:Nat} {us:List Value} {σ fp},Ok σ a w O gv N vals fp→us.length=args.length→(∀j u,us[j]? = some u→vals (N+i+j)=u) →
  ∃fp' fpo,RdL w O (Q0 N σ i args) us fpo∧fpo.Nodup∧(∀b∈fpo,Sof fp b∧¬Sof fp' b)∧(∀b,Sof fp' b→Sof fp b):=by
 intro args
 induction args with
 | nil=>intro i us σ fp h hl _;cases us<;>simp at hl;exact ⟨fp,[],.nil,by simp,by simp,fun _=>id⟩
 | cons v r ih=>
   intro i us σ fp h hl hv
   cases us with
   | nil=>simp at hl
   | cons u us=>
     have hl':us.length=r.length:=by simpa using hl
     have hv' : ∀j x,us[j]? = some x→vals (N+(i+1)+j)=x:=by
      intro j x hx
      have:=hv (j+1) x (by simpa using hx)
      rw [show N+(i+1)+j=N+i+(j+1) by omega];exact this
     have hu:vals (N+i)=u:=by simpa using hv 0 u (by simp)
     have dead : ∃fp' fpo,RdL w O (V.dead::Q0 N σ (i+1) r) (u::us) fpo∧fpo.Nodup∧(∀b∈fpo,Sof fp b∧¬Sof fp' b)∧(∀b,Sof fp' b→Sof fp b):=by
      obtain ⟨fp',fpo,h1,h2⟩:=ih h hl' hv'
      exact ⟨fp',fpo,.leaf (.dead u) h1,h2⟩
     simp only [Q0]
     split
     ·split
      ·rename_i U σ1 hU
       obtain ⟨fp1,f1,o1,r1,n1,d1,s1⟩:=Auk h hU
       rw [hu] at r1
       obtain ⟨fp2,f2,r2,n2,d2,s2⟩:=ih o1 hl' hv'
       refine ⟨fp2,f1++f2,r1.append r2,List.nodup_append.2 ⟨n1,n2,?_⟩,?_,fun b hb=>s1 b (s2 b hb)⟩
       ·rintro b hb c hc rfl
        exact (d1 b hb).2 (d2 b hc).1
       ·intro b hb
        rcases List.mem_append.1 hb with hb | hb
        ·exact ⟨(d1 b hb).1,fun hh=>(d1 b hb).2 (s2 b hh)⟩
        ·exact ⟨s1 b (d2 b hb).1,(d2 b hb).2⟩
      ·exact dead
     ·exact dead
def Ane (N:Nat) (rs:List RS) (args:List V) (R:V→List V→Prop):Ex→St→Prop
 | .exit _,_=>False
 | .normal,σ=>match Ant σ rs with
   | some (vs,σ')=>R (Ah vs) (Q0 N σ' 0 args)
   | none=>False
 | .ret,σ=>match Ant σ rs with
   | some (vs,σ')=>R (Ah vs) (Q0 N σ' 0 args)
   | none=>False
def Bh (P:Program) (f N:Nat) (ac:ACode) (rs:List RS):Bool:=match P.funcs[f]? with
 | some fn=>fn.ntmps==N && !(fn.name == "runtime.NumGoroutine")&&Ka P N rs fn.results.toList&&(match fn.body with
   | some c=>Fn P N ac c
   | none=>false)
 | none=>false
theorem Aky {P:Program} {fn:Func} {tmps:Array Value} {w:World} {us:List Value} (h:(fn.results.toList.mapM (Xc tmps)).run P w = .ok us w) :
  (results fn tmps).run P w = .ok (match us with | [u]=>u | us=> .tuple us.toArray) w:=by
 have e:results fn tmps=(fn.results.mapM (Xc tmps) >>= fun vs=>pure (if h:vs.size=1 then vs[0] else .tuple vs)):=by
  unfold results
  congr 1
 rw [e,Array.mapM_eq_mapM_toList]
 simp only [Sem.run_bind,Sem.run_map,h,Result.andThen_ok,Sem.run_pure]
 match us with
 | []=>rfl
 | [u]=>rfl
 | _::_::_=>simp
theorem Aqj {P:Program} {f N:Nat} {ac:ACode} {rs:List RS} {args:List V} {R:V→List V→Prop} {σ0:St} {w:World} {O:Nat→Prop} {us:List Value} {fp:List Nat} (hf:Bh P f N ac rs=true) (hn:args.length≤N)
  (h:awp P ac (Ane N rs args R) σ0) (hrd:RdL w O args us fp) (hnd:fp.Nodup)
  (hent : ∀ {a0 gv vals fpf},Ok (entry N 0 args) a0 w O gv N vals fpf→(∀j u,us[j]? = some u→vals j=u∧vals (N+j)=u) → ∃vals' fpf',Ok σ0 a0 w O gv N vals' fpf' ∧ ∀b,Sof fpf' b→Sof fpf b) :
  (∃fn c,P.funcs[f]? = some fn∧(fn.name == "runtime.NumGoroutine")=false∧fn.body=some c) ∧
  Calls P f us.toArray w fun e w' => ∃res outs rv O' fpr fpo,R res outs∧e = .returned rv∧RdL w' O' [res] [rv] fpr∧RdL w' O' outs us fpo∧(fpr++fpo).Nodup ∧
   Mv w O (· ∈ fp) w' O' (· ∈ fpr++fpo):=by
 unfold Bh at hf
 split at hf
 case h_2=>cases hf
 rename_i fn hfn
 simp only [Bool.and_eq_true,beq_iff_eq,Bool.not_eq_true'] at hf
 obtain ⟨⟨⟨hN,hname⟩,hres⟩,hbody⟩:=hf
 split at hbody
 case h_2=>cases hbody
 rename_i c hc
 refine ⟨⟨fn,c,hfn,hname,hc⟩,?_⟩
 refine calls_of_wp hfn hc ?_
 have hul:=hrd.length
 have hsz:us.toArray.size≤fn.ntmps:=by simp;omega
 let a0:Act:={ tmps:=us.toArray++Array.replicate (fn.ntmps-us.toArray.size) undef,defers:=[] }
 let gv:Nat→Value:=fun s=>us.getD (s-N) undef
 let vals:Nat→Value:=fun s=>if s<N then a0.tmps.getD s undef else gv s
 have hvals : ∀j u,us[j]? = some u→vals (0+j)=u∧vals (N+0+j)=u:=by
  intro j u hj
  have hlt:j<us.length:=(List.getElem?_eq_some_iff.1 hj).1
  constructor
  ·simp only [vals,Nat.zero_add]
   rw [if_pos (by omega)]
   have:a0.tmps[j]? = some u:=by
    simp only [a0]
    rw [Array.getElem?_append_left (by simpa using hlt)]
    simpa using hj
   simp [this]
  ·simp only [vals,gv]
   rw [if_neg (by omega)]
   have e:N+0+j-N=j:=by omega
   rw [e,List.getD_eq_getElem?_getD,hj];rfl
 obtain ⟨fpf,hsim,hsub,_,_⟩:=Aqe (N:=N) (i:=0) hrd hnd (by omega) hvals
 have hok:Ok (entry N 0 args) a0 w O gv N vals fpf:=
  ⟨hsim,fun s hs=>by simp [vals,hs],fun s hs=>by simp only [vals];rw [if_neg (by omega)],by simp [a0];omega,rfl⟩
 obtain ⟨vals2,fpf2,hok2,hsub2⟩:=hent hok (fun j u hj=>by simpa using hvals j u hj)
 replace hsub : ∀b,Sof fpf2 b→b∈fp:=fun b hb=>hsub b (hsub2 b hb)
 refine wp_mono (Aq0 ac hbody h hok2) ?_
 rintro e a' w' ⟨ex,σ',O',vals',fp',he,hq,ho,hm⟩
 have fin:(match Ant σ' rs with | some (vs,σ2)=>R (Ah vs) (Q0 N σ2 0 args) | none=>False)→a'.defers=[] ∧ ∃v,(results fn a'.tmps).run P w' = .ok v w' ∧
   ∃res outs rv O' fpr fpo,R res outs∧Ending.returned v = .returned rv∧RdL w' O' [res] [rv] fpr∧RdL w' O' outs us fpo∧(fpr++fpo).Nodup∧Mv w O (· ∈ fp) w' O' (· ∈ fpr++fpo):=by
  intro hR
  split at hR
  case h_2=>exact hR.elim
  rename_i vs σ2 hT
  obtain ⟨rus,fp2,fpV,hrun,o2,rV,nV,dV,s2⟩:=Auc (P:=P) ho hres hT
  obtain ⟨_,fpo,ro,no,mo,_⟩:=Auh (i:=0) o2 (args:=args) (us:=us) hul (by
   intro j u hj
   rw [o2.hi _ (by omega)]
   have e:N+0+j-N=j:=by omega
   simp only [gv]
   rw [e,List.getD_eq_getElem?_getD,hj];rfl)
  refine ⟨ho.df,_,Aky hrun,Ah vs,_,_,O',fpV,fpo,hR,rfl,?_,ro,?_,?_⟩
  ·have hl:=rV.length
   match vs,rus,hl,rV with
   | [v],[u],_,rV=>exact rV
   | [],[],_,rV=>cases rV;exact .grp (fp1:=[]) (fp2:=[]) (.tup _ _) .nil .nil
   | v1::v2::r,u1::u2::q,_,rV=>
     have:=RdL.grp (.tup (v1::v2::r) (u1::u2::q)) rV .nil
     rw [List.append_nil] at this
     exact this
  ·refine List.nodup_append.2 ⟨nV,no,?_⟩
   rintro b hb c hc rfl
   exact (dV b hb).2 (mo b hc).1
  ·refine ⟨hm.os,hm.tape,hm.output,hm.size,fun b hb hS=>hm.same b hb fun hh=>hS (hsub b hh),fun b hb=> ?_⟩
   have:Sof fp' b:=by
    rcases List.mem_append.1 hb with h1 | h1
    ·exact (dV b h1).1
    ·exact s2 b (mo b h1).1
   exact (hm.new b this).imp (hsub b) id
 cases e with
 | normal=>simp only [Wl,Option.some.injEq] at he;subst he;exact fin hq
 | ret=>simp only [Wl,Option.some.injEq] at he;subst he;exact fin hq
 | exit i=>simp only [Wl,Option.some.injEq] at he;subst he;exact hq.elim
 | goto l=>simp [Wl] at he
 | panic ch=>simp [Wl] at he
 | outgrown=>simp [Wl] at he
theorem Asg {P:Program} {f N:Nat} {ac:ACode} {rs:List RS} {args:List V} {R:V→List V→Prop} (hf:Bh P f N ac rs=true) (hn:args.length≤N)
  (h:awp P ac (Ane N rs args R) (entry N 0 args)):Tri P f args R:=
 fun _ _ _ _ hrd hnd=>Aqj hf hn h hrd hnd fun ho _=>⟨_,_,ho,fun _=>id⟩
theorem Nw {d ls rs} {K K':St→Prop} {σ r o} (h : ∀σ,K σ→K' σ) (hr:D2 d ls rs K σ r o):D2 d ls rs K' σ r o:=by
 unfold D2 at *
 split at hr
 ·exact ⟨hr.1,h _ hr.2⟩
 ·refine ⟨hr.1,?_⟩
  have hr2:=hr.2
  split at hr2
  ·rename_i hout hT
   refine ⟨hr2.1,?_⟩
   have hr3:=hr2.2
   split at hr3
   ·exact h _ hr3
   exact hr3
  exact hr2
 ·refine ⟨hr.1,?_⟩
  have hr2:=hr.2
  split at hr2
  ·refine ⟨hr2.1,?_⟩
   have hr3:=hr2.2
   split at hr3
   ·exact h _ hr3
   exact hr3
  exact hr2
 exact hr.elim
theorem Ym {P f d as} {K K':St→Prop} {σ} (h : ∀σ,K σ→K' σ) (ha:F0 P f d as K σ):F0 P f d as K' σ:=by
 unfold F0 at *
 split at ha
 ·split at ha
  ·refine ⟨ha.1,ha.2.mono fun r o hr=> ?_⟩
   unfold N3 at *
   split at hr
   ·split at hr
    ·exact Nw h hr
    exact hr
   exact hr
  exact ha
 split at ha
 ·exact ⟨ha.1,ha.2.mono fun r o hr=>Nw h hr⟩
 exact ha
theorem Agc {P f m j d as} {K K':St→Prop} {σ} (h : ∀σ,K σ→K' σ) (ha:Ob P f m j d as K σ):Ob P f m j d as K' σ:=by
 unfold Ob at *
 split at ha
 ·exact ⟨ha.1,ha.2.mono fun r o hr=>Nw h hr⟩
 exact ha
theorem I4 {P o} {K K':St→Prop} {σ} (h : ∀σ,K σ→K' σ) (ha:P3 P o K σ):P3 P o K' σ:=by
 unfold P3 at *
 split at ha
 ·exact Ym h ha
 ·split at ha
  ·exact Ym h ha
  split at ha
  ·exact Agc h ha
  exact ha
 split at ha
 ·exact h _ ha
 exact ha
theorem Lw {P} : ∀ {gs:List G} {K K':St→Prop} {σ},(∀σ,K σ→K' σ)→Eh P gs K σ→Eh P gs K' σ:=by
 intro gs
 induction gs with
 | nil=>intro K K' σ h ha;exact h _ ha
 | cons x r ih=>
   intro K K' σ h ha
   simp only [Eh] at *
   split at ha
   ·exact I4 (fun σ=>ih h) ha
   ·split at ha
    ·exact ⟨fun hb=>I4 (fun σ=>ih h) (ha.1 hb),fun hb=>ih h (ha.2 hb)⟩
    ·exact ih h ha
    ·exact ha
theorem Wk {P:Program} {o:AOp} {σ:St} {c c':Nat→A→List Nat→Prop} (h : ∀d a ks,c d a ks→c' d a ks) (ha:Mu P o σ c):Mu P o σ c':=by
 unfold Mu at *
 split at ha
 ·obtain ⟨h1,h2⟩:=ha
  refine ⟨h1,?_⟩
  split at h2
  ·obtain ⟨v,h3,h4⟩:=h2;exact ⟨v,h3,h _ _ _ h4⟩
  exact h2
 ·split at ha
  ·split at ha
   ·obtain ⟨v,h3,h4⟩:=ha;exact ⟨v,h3,h _ _ _ h4⟩
   exact ha
  exact ha
 ·split at ha
  ·split at ha
   ·exact ⟨ha.1,h _ _ _ ha.2⟩
   exact ha
  exact ha
 ·split at ha
  ·exact ⟨ha.1,h _ _ _ ha.2⟩
  exact ha
 ·split at ha
  ·split at ha
   ·exact h _ _ _ ha
   exact h _ _ _ ha
  exact ha
 split at ha
 ·exact h _ _ _ ha
 exact ha
theorem Aat {P:Program} {o:AOp} {s:Nat} {σ:St} {c c':Nat→V→Nat×V×Nat→Prop} (h : ∀d v x,c d v x→c' d v x) (ha:Td P o s σ c):Td P o s σ c':=by
 unfold Td at *
 split at ha
 ·split at ha
  ·exact ha
  split at ha
  ·refine ⟨ha.1,?_⟩
   have h2:=ha.2
   split at h2
   ·obtain ⟨v,u,T',h3,h4,h5⟩:=h2
    exact ⟨v,u,T',h3,h4,h _ _ _ h5⟩
   exact h2
  exact ha
 exact ha
theorem O5 {P:Program} {ls:List Nat} {σ0:St} : ∀ {pre:List (G×List Nat)} {acc:St} {KS:List (List Nat)} {CS:List (List (Nat×V×Nat))} {K K':St→Prop},(∀σ,K σ→K' σ)→E8 P ls σ0 pre acc KS CS K→E8 P ls σ0 pre acc KS CS K':=by
 intro pre
 induction pre with
 | nil=>intro acc KS CS K K' h ha;exact ⟨ha.1,h _ ha.2⟩
 | cons x r ih=>
   intro acc KS CS K K' h ha
   obtain ⟨x,hide⟩:=x
   simp only [E8] at *
   split at ha
   ·split at ha
    ·exact Wk (fun d a ks hh=>⟨hh.1,ih h hh.2⟩) ha
    ·exact Aat (fun d v c hh=>⟨hh.1,ih h hh.2⟩) ha
   ·obtain ⟨hlo,ha⟩:=ha
    refine ⟨hlo,?_⟩
    split at ha
    ·refine ⟨fun hb=>Wk (fun d a ks hh=>⟨hh.1,ih h hh.2⟩) (ha.1 hb),fun hb=> ?_⟩
     have h2:=ha.2 hb
     split at h2
     ·exact ⟨h2.1,ih h h2.2⟩
     ·exact h2
    ·split at ha
     ·exact ⟨ha.1,ih h ha.2⟩
     ·exact ha
    ·exact ha
theorem Ah2 {P:Program} {A:List (Nat×AOp)} {K K':St→Prop} (h : ∀σ,K σ→K' σ) : ∀ {pl:LPlan} {b:Bool} {σ},Lg P A K pl b σ→Lg P A K' pl b σ:=by
 intro pl
 induction pl with
 | nil=>intro b σ ha hb;exact h _ (ha hb)
 | alt i x xs ds nx ot ih1 ih2=>
   intro b σ ha
   exact ⟨⟨ha.1.1,I4 (fun σ=>ih1) ha.1.2⟩,ih2 ha.2⟩
theorem V3 : ∀ {A:List (Nat×AOp)} {K K':St→Prop} {σ},(∀σ,K σ→K' σ)→Ir A K σ→Ir A K' σ:=by
 intro A
 induction A with
 | nil=>intro K K' σ h ha;exact h _ ha
 | cons e r ih=>
   intro K K' σ h ha
   obtain ⟨i,x⟩:=e
   simp only [Ir] at *
   split at ha
   ·exact ⟨ha.1,ih h ha.2⟩
   ·exact ha
theorem K5 {n n':St→Prop} {Q Q':Ex→St→Prop} (h1 : ∀σ,n σ→n' σ) (h2 : ∀e σ,Q e σ→Q' e σ) : ∀e σ,Vz n Q e σ→Vz n' Q' e σ:=by
 intro e σ h
 cases e
 ·exact h1 σ h
 ·exact h2 _ σ h
 exact h2 _ σ h
theorem Ni {P} : ∀ {c:ACode} {Q Q':Ex→St→Prop} {σ},(∀e σ,Q e σ→Q' e σ)→awp P c Q σ→awp P c Q' σ:=by
 intro c
 induction c with
 | skip=>intro Q Q' σ h ha;exact h _ _ ha
 | reg gs=>intro Q Q' σ h ha;exact Lw (h .normal) ha
 | dreg pre post=>intro Q Q' σ h ha;exact O5 (fun σ=>Lw (h .normal)) ha
 | dregp n0 ds pre post=>intro Q Q' σ h ha;exact Lw (fun σ1 h1=>⟨h1.1,O5 (fun σ=>Lw (h .normal)) h1.2⟩) ha
 | dregl A R=>intro Q Q' σ h ha;exact V3 (fun _=>Ah2 (h .normal)) ha
 | seq a b ih1 ih2=>intro Q Q' σ h ha;exact ih1 (K5 (fun σ=>ih2 h) h) ha
 | cond x t e ih1 ih2=>
   intro Q Q' σ h ha
   simp only [awp] at *
   split at ha
   ·exact ⟨fun hb=>ih1 h (ha.1 hb),fun hb=>ih2 h (ha.2 hb)⟩
   ·exact ha
 | block i c ih=>
   intro Q Q' σ h ha
   refine ih ?_ ha
   intro e σ hq
   cases e with
   | normal=>exact h _ _ hq
   | exit j=>simp only [Ajg] at *;split at hq<;>rename_i hj<;>simp only [hj,if_true,if_false]<;>exact h _ _ hq
   | ret=>exact h _ _ hq
 | loop c ih=>
   intro Q Q' σ h ha
   obtain ⟨ks,n,hl⟩:=ha
   refine ⟨ks,n,?_⟩
   have key : ∀n σ,V5 (awp P c) ks (less Q) n σ→V5 (awp P c) ks (less Q') n σ:=by
    intro n
    induction n with
    | zero=>intro σ hh;exact hh
    | succ n ihn=>intro σ hh;exact ih (K5 (fun σ=>ihn _) (Ahl h)) hh
   exact key n _ hl
 | exit i=>intro Q Q' σ h ha;exact h _ _ ha
 | ret=>intro Q Q' σ h ha;exact h _ _ ha
 | drop ds c ih=>intro Q Q' σ h ha;exact ih h ha
 | cut c ih=>intro Q Q' σ h ha;exact ih (Ahl h) ha
 | frz ss c ih=>intro Q Q' σ h ha;exact ih h ha
theorem Asc {P c ks Q} : ∀ {n m σ},n≤m→V5 (awp P c) ks Q n σ→V5 (awp P c) ks Q m σ:=by
 intro n
 induction n with
 | zero=>intro m σ _ h;exact h.elim
 | succ n ih=>
   intro m σ hm h
   cases m with
   | zero=>omega
   | succ m=>exact Ni (K5 (fun σ=>ih (by omega)) fun _ _=>id) h
theorem Atm {P:Program} {c:ACode} {Q:Ex→St→Prop} {σ:St} (ks:List Nat) (I:Nat→St→Prop) (n:Nat) (h0:I n (restrict ks σ))
  (hr : ∀n σ,I n σ→awp P c (Vz (fun σ' => ∃m,m<n∧I m (restrict ks σ')) (less Q)) σ):awp P (.loop c) Q σ:=by
 refine ⟨ks,n+1,?_⟩
 have key : ∀n σ,I n σ→V5 (awp P c) ks (less Q) (n+1) σ:=by
  intro n
  induction n using Nat.strongRecOn with
  | _ n ih=>
    intro σ hI
    refine Ni (K5 ?_ fun _ _=>id) (hr n σ hI)
    rintro σ' ⟨m,hm,hI'⟩
    exact Asc (by omega) (ih m hm _ hI')
 exact key n _ h0
end Go.Proofs.YtbnoclklhcbidaaDoor.Ax
