/-
 Part of the proof; see the last text of the claim.
-/
import Derived.Test.YtmmcfdfdacpjgaaAx2
import Derived.StillTail
import Derived.OrdersHeld
namespace Go.Proofs.Ytmmcfdfdacpjgaa.Ax
open Go
structure G where
 g:Option (Nat×Bool)
 o:AOp
def AOp.dst:AOp→Option Nat
 | .mov d _=>some d
 | .asg d _=>some d
 | .asgf d _=>some d
 | .pick d _ _ _=>some d
 | .bin d _ _ _=>some d
 | .binb d _ _ _=>some d
 | .un d _ _=>some d
 | .cnv d _ _=>some d
 | .len d _=>some d
 | .slen d _=>some d
 | .sidx d _ _=>some d
 | .max d _ _=>some d
 | .ext d _ _=>some d
 | .iad d _ _ _=>some d
 | .fadr d _ _=>some d
 | .ld d _ _ _=>some d
 | .st _ _ _=>none
 | .box d _=>some d
 | .alc d _=>some d
 | .mk d _ _ _=>some d
 | .mkc d _ _ _=>some d
 | .bsl d _ _=>some d
 | .mkr d _ _ _=>some d
 | .bslr d _ _=>some d
 | .bld d _ _=>some d
 | .app d _ _ _=>some d
 | .slc d _ _ _ _=>some d
 | .nck d _=>some d
 | .mkf d _ _=>some d
 | .call d _ _=>some d
 | .cally d _ _ _=>some d
 | .mkm d _=>some d
 | .mlk d _ _ _ _ _=>some d
 | .mup _ _ _ _=>none
 | .bstr d _=>some d
 | .apf d _ _ _ _=>some d
 | .apk d _ _ _ _ _=>some d
def Eh (σ:St) (as:List (X×Bool)):List (A×Bool):=as.map fun e=>(Ai σ e.1,e.2)
theorem Ami {σ:St} {as:List (X×Bool)} (h:as.all (fun e => !e.2)=true):Lg (Eh σ as)=none:=by
 refine Add fun e he=> ?_
 obtain ⟨x,hx,rfl⟩:=List.mem_map.1 he
 simpa using List.all_eq_true.1 h x hx
def Agl:List Bool→List A→List (A×Bool)
 | _,[]=>[]
 | [],a::r=>(a,false)::Agl [] r
 | m::ms,a::r=>(a,m)::Agl ms r
theorem Ae1 : ∀(ms:List Bool) (as:List A),(Agl ms as).map (·.1)=as
 | _,[]=>by cases ‹List Bool› <;> rfl
 | [],a::r=>by simp [Agl,Ae1 [] r]
 | m::ms,a::r=>by simp [Agl,Ae1 ms r]
def Zz (ms:List Bool):A→Option (Nat×List (A×Bool))
 | .val (.clo f cs)=>some (f,cs.map fun c=>(.val c,false))
 | .val (.fclo f cs)=>some (f,(fzL cs).map fun c=>(.val c,false))
 | .clo f as=>some (f,Agl ms as)
 | _=>none
theorem A3e {w O f cs v fp} (h:RdL w O [.clo f cs] [v] fp) : ∃us:List Value,v = .func (.func f) #[] us.toArray∧RdL w O cs us fp:=by
 cases h with
 | leaf hl _=>cases hl
 | grp hg s t=>cases hg;cases t;exact ⟨_,rfl,by simpa using s⟩
 | fblk hh _ _ _ _=>cases hh
 | oblk hh _ _ _ _ _=>cases hh
theorem Ay5 {w O tv f cs v fp} (h:RdL w O [.clov tv f cs] [v] fp) : ∃us:List Value,v = .func (.func f) #[] us.toArray∧RdL w O cs us fp:=by
 cases h with
 | leaf hl _=>cases hl
 | grp hg s t=>cases hg;rename_i e;cases t;exact ⟨_,e,by simpa using s⟩
 | fblk hh _ _ _ _=>cases hh
 | oblk hh _ _ _ _ _=>cases hh
def Aqb (σ:St):A→A
 | .ref r p=>match B0 σ r p with
   | some (.clov _ f cs)=> .clo f (Tc r p 0 cs)
   | _=> .ref r p
 | a=>a
theorem A0p {σ a w O gv N vals fp} (h:Ok σ a w O gv N vals fp) {y:A} {v:Value} (hr:RelL w O (look σ) vals [y] [v]):RelL w O (look σ) vals [Aqb σ y] [v]:=by
 unfold Aqb
 split
 ·rename_i r p
  split
  ·rename_i tv f cs hn
   cases hr with
   | @ref _ _ T u _ _ _ hL hs hv _=>
     have hu:u = .clov tv f cs:=by simpa [B0,hL,hs] using hn
     subst hu
     obtain ⟨z,f1,fu,f2,_,hz,hru,_⟩:=ctx p (h.sim.own r T hL) hs
     rw [hv] at hz;cases hz
     obtain ⟨us,rfl,s⟩:=Ay5 hru
     obtain ⟨vs,h0,h1,h2⟩:=Z7 h hL hs rfl hv cs 0 (fun j _=>by simp [V.kids])
     have hlen:=s.length
     have:vs=us:=by
      refine List.ext_getElem? fun j=> ?_
      by_cases hj:j<vs.length
      ·have:=h1 j hj
       simpa [Ge] using this.symm
      ·rw [List.getElem?_eq_none (by omega),List.getElem?_eq_none (by omega)]
     subst this
     exact .clo h2 .nil
  exact hr
 exact hr
theorem Jq.pre {w O gv N fp K next w1 O1 fp1} (h:Jq w O gv N fp K next) (hm:Mv w O (Sof fp) w1 O1 (Sof fp1)):Jq w1 O1 gv N fp1 K next:=
 fun σ' a' w' O' vals' fp' hk ho hm'=>h σ' a' w' O' vals' fp' hk ho (hm.trans hm')
theorem A0c {τ a w O gv N vals fp} {s:Nat} {U:V} (h:Ok τ a w O gv N vals fp) (hr:RdL w O [U] [vals s] []) : ∃fp',Ok (Ak s (.val U) (Ak s .top τ)) a w O gv N vals fp'∧Mv w O (Sof fp) w O (Sof fp'):=by
 have h1:=h.sim.put_top s (vals s)
 rw [Zp,←D1] at h1
 have h3:=h1.put_own s U [] (by rw [Bl];simp [upF,A.mapR]) hr (by simp) (by simp)
 have e:look (Ak s (.val U) (Ak s .top τ))=upF (look (Ak s .top τ)) s (.val U):=by
  rw [Bl]
  funext t
  simp only [upF,Gw]
  split
  ·rfl
  ·rename_i ht
   rw [D1]
   simp only [Gw,if_neg ht]
   generalize look τ t=x
   have key : ∀r l,Ao s 0 r l=none∨Ao s 0 r l=some r:=by intro r l;unfold Ao;split<;>simp
   exact O3 (Ao s 0) key x
 rw [←e] at h3
 refine ⟨_,⟨h3,h.lo,h.hi,h.sz,h.df⟩,(Mv.refl w O _).shrink ?_⟩
 rintro b ⟨t,hb⟩
 simp only [upF] at hb
 split at hb
 ·simp at hb
 exact ⟨t,hb⟩
def A2e:List Nat→List Nat→Bool
 | [],[]=>true
 | a::p,b::q=>Nat.beq a b&&A2e p q
 | _,_=>false
theorem Au4 : ∀ {p q:List Nat},A2e p q=true→p=q
 | [],[],_=>rfl
 | a::p,b::q,h=>by
   simp only [A2e,Bool.and_eq_true] at h
   rw [Nat.eq_of_beq_eq_true h.1,Au4 h.2]
def Azp (r:Nat) (p:List Nat):A→Bool
 | .ref r' p'=>Nat.beq r' r&&A2e p' p
 | _=>false
theorem Ayo {r p a} (h:Azp r p a=true):a = .ref r p:=by
 unfold Azp at h
 split at h
 ·simp only [Bool.and_eq_true] at h
  rw [Nat.eq_of_beq_eq_true h.1,Au4 h.2]
 cases h
def Abp (r:Nat) (p:List Nat) (σ:St):St→List Nat
 | []=>[]
 | (k,_)::q=>match Azp r p (look σ k) with
   | true=>k::Abp r p σ q
   | false=>Abp r p σ q
theorem At9 {r p σ} : ∀ {q:St} {k},k∈Abp r p σ q→look σ k = .ref r p:=by
 intro q
 induction q with
 | nil=>intro k h;cases h
 | cons e q ih=>
   intro k h
   obtain ⟨j,b⟩:=e
   simp only [Abp] at h
   split at h
   ·rename_i hi
    rcases List.mem_cons.1 h with rfl | h
    ·exact Ayo hi
    ·exact ih h
   ·exact ih h
def Aih (u:V):List Nat→St→St
 | [],σ=>σ
 | k::r,σ=>Aih u r (Ak k (.val u) (Ak k .top σ))
theorem Ato {a w O gv N vals} {u:V} {x:Value} (hr:RdL w O [u] [x] []) : ∀ {ks:List Nat} {τ fp},(∀k∈ks,vals k=x)→Ok τ a w O gv N vals fp → ∃fp',Ok (Aih u ks τ) a w O gv N vals fp'∧Mv w O (Sof fp) w O (Sof fp'):=by
 intro ks
 induction ks with
 | nil=>intro τ fp _ h;exact ⟨fp,h,Mv.refl _ _ _⟩
 | cons k r ih=>
   intro τ fp hk h
   obtain ⟨fp1,h1,m1⟩:=A0c (s:=k) (U:=u) h (by rw [hk k (by simp)];exact hr)
   obtain ⟨fp2,h2,m2⟩:=ih (fun j hj=>hk j (by simp [hj])) h1
   exact ⟨fp2,h2,m1.trans m2⟩
def Ay8 (r c:Nat) (p:List Nat) (σ:St):St:=match look σ r with
 | .val T=>(match sub (c::p) T with
   | some u=>(match u.hasOwn with
     | true=>(match upd (c::p) T .dead with
       | some T0=>(match upd (c::p) T0 u.fz with
         | some T1=>Aih u.fz (Abp r (c::p) σ σ) (turnP r T1 (c::p) (turnP r T0 (c::p) σ))
         | none=>σ)
       | none=>σ)
     | false=>σ)
   | none=>σ)
 | _=>σ
theorem A01 {σ a w O gv N vals fp} (r c:Nat) (p:List Nat) (h:Ok σ a w O gv N vals fp) : ∃O' fp',Ok (Ay8 r c p σ) a w O' gv N vals fp'∧Mv w O (Sof fp) w O' (Sof fp'):=by
 have same : ∃O' fp',Ok σ a w O' gv N vals fp'∧Mv w O (Sof fp) w O' (Sof fp'):=⟨O,fp,h,Mv.refl _ _ _⟩
 unfold Ay8
 split
 case h_2=>exact same
 rename_i T hT
 split
 case h_2=>exact same
 rename_i u hu
 split
 case h_2=>exact same
 split
 case h_2=>exact same
 rename_i T0 hT0
 split
 case h_2=>exact same
 rename_i T1 hT1
 obtain ⟨x,_,_,_,_,hx,_,_⟩:=ctx (c::p) (h.sim.own r T hT) hu
 obtain ⟨fp1,fpV,o1,rV,nV,dV,s1⟩:=Z6 h hT hu hx (.leaf (.dead _) .nil) hT0
 have hst:Iq w O w (fun b=>O b∧b∉fpV):=fun b hb _=>⟨rfl,fun hh=>hb hh.1⟩
 have o2:Ok (turnP r T0 (c::p) σ) a w (fun b=>O b∧b∉fpV) gv N vals fp1:=o1.world hst fun b hb=>⟨rfl,by
  obtain ⟨s,hs⟩:=hb
  exact ⟨(o1.sim.fpO s b hs).1,fun hv=>(dV b hv).2 ⟨s,hs⟩⟩⟩
 have rF:RdL w (fun b=>O b∧b∉fpV) [u.fz] [x] []:=by
  have:=rV.fz (O2:=fun b=>O b∧b∉fpV) (fun b hb hh=>hh.2 hb) (fun b hb _ hh=>hb hh.1)
  simpa [fzL] using this
 have hL0:look (turnP r T0 (c::p) σ) r = .val T0:=by rw [Hn hT];simp
 have hs0:sub (c::p) T0=some .dead:=E0 (c::p) hu hT0
 obtain ⟨fp3,o3,s3⟩:=Ad1 o2 hL0 hs0 rfl hx rF (by simp) (by simp) hT1
 obtain ⟨fp4,o4,m4⟩:=Ato rF (ks:=Abp r (c::p) σ σ) (fun k hk=>by
  have hr:=At9 hk
  have hl:=h.sim.rel k (by simp [hr])
  rw [hr] at hl
  generalize vals k=y at hl
  cases hl with
  | ref _ _ hv _=>rw [hx] at hv;cases hv;rfl) o3
 refine ⟨_,fp4,o4,Mv.trans ⟨rfl,rfl,rfl,Nat.le_refl _,?_,?_⟩ m4⟩
 ·intro b _ hb
  exact ⟨rfl,fun hh=>hh.1,fun hh=>⟨hh,fun hc=>hb (dV b hc).1⟩⟩
 intro b hb
 left
 rcases s3 b hb with h2 | h2
 ·exact s1 b h2
 cases h2
def Ag0 (o:AOp) (σ:St):St:=match o with
 | .slc _ _ (.t s) _ _=>(match look σ s with
   | .val T=>(match T.hasOwn with
     | true=>Afr s σ
     | false=>σ)
   | .ref r (c::p)=>Ay8 r c p σ
   | _=>σ)
 | _=>σ
theorem Azo {σ a w O gv N vals fp} (o:AOp) (h:Ok σ a w O gv N vals fp) : ∃O' fp',Ok (Ag0 o σ) a w O' gv N vals fp'∧Mv w O (Sof fp) w O' (Sof fp'):=by
 unfold Ag0
 split
 ·split
  ·split
   ·exact Ad7 _ h
   exact ⟨O,fp,h,Mv.refl _ _ _⟩
  ·exact A01 _ _ _ h
  exact ⟨O,fp,h,Mv.refl _ _ _⟩
 exact ⟨O,fp,h,Mv.refl _ _ _⟩
def Sj (P:Program) (o:AOp) (K:St→Prop) (σ:St):Prop:=match o with
 | .call d f as=>Ig P f d (Eh σ as) K σ
 | .cally d x as ms=>match Zz ms (Aqb σ (Ai σ x)) with
   | some (f,cs)=>Ig P f d (Eh σ (as.map (·,false))++cs) K σ
   | none=>False
 | .apk d m x y s e=>(match yS σ m (Ai σ y) with
   | some (ys,σ1)=>(match Ai σ1 x with
     | .ref r []=>(match look σ1 r with
       | .val (.sl o m' xs)=>(look σ1 s = .ref r []∧o=true∧m'=m∧Cj (Ay ys)=true∧A4 (Ay ys)=false∧A4 (Ay xs)=false∧xs.length+ys.length≤LIM) ∧
         K (Ak d (.val (.sl true m (xs++ys))) σ1) ∧ ∀b c,K (A0r d m r s e (.slice (some ⟨b,0,none⟩) xs.length c) (.slice (some ⟨b,0,none⟩) (xs.length+ys.length) c) (xs++ys) σ1)
       | _=>False)
     | _=>False)
   | none=>False)
 | o=>match Cm o (Ag0 o σ) with
   | some σ'=>K σ'
   | none=>False
def Ant:List (X×Bool)→List Nat
 | []=>[]
 | (.t s,true)::r=>s::Ant r
 | (.t _,false)::r=>Ant r
 | (.c _,_)::r=>Ant r
def Acb:List (X×Bool)→St→St
 | [],σ=>σ
 | (.t s,false)::r,σ=>Acb r (match look σ s with
   | .val T=>(match T.hasOwn with
     | true=>Afr s σ
     | false=>σ)
   | _=>σ)
 | (.t _,true)::r,σ=>Acb r σ
 | (.c _,_)::r,σ=>Acb r σ
def Abr (o:AOp) (σ:St):St:=match o with
 | .call _ _ as=>(match Ant as with
   | []=>σ
   | _::_=>Acb as σ)
 | _=>σ
theorem Awy {a w gv N vals} : ∀(as:List (X×Bool)) {σ O fp},Ok σ a w O gv N vals fp → ∃O' fp',Ok (Acb as σ) a w O' gv N vals fp'∧Mv w O (Sof fp) w O' (Sof fp'):=by
 intro as
 induction as with
 | nil=>intro σ O fp h;exact ⟨O,fp,h,Mv.refl _ _ _⟩
 | cons e r ih=>
   intro σ O fp h
   obtain ⟨x,io⟩:=e
   cases x with
   | c v=>exact ih h
   | t s=>
     cases io with
     | true=>exact ih h
     | false=>
       simp only [Acb]
       split
       ·split
        ·obtain ⟨O1,fp1,h1,m1⟩:=Ad7 s h
         obtain ⟨O2,fp2,h2,m2⟩:=ih h1
         exact ⟨O2,fp2,h2,m1.trans m2⟩
        ·exact ih h
       ·exact ih h
theorem Awz {σ a w O gv N vals fp} (o:AOp) (h:Ok σ a w O gv N vals fp) : ∃O' fp',Ok (Abr o σ) a w O' gv N vals fp'∧Mv w O (Sof fp) w O' (Sof fp'):=by
 unfold Abr
 split
 ·split
  ·exact ⟨O,fp,h,Mv.refl _ _ _⟩
  exact Awy _ h
 exact ⟨O,fp,h,Mv.refl _ _ _⟩
def un (o:AOp):G:=⟨none,o⟩
abbrev R (a n:Nat):List Nat:=List.range' a n
abbrev G.l (d:Nat) (x:X):G:=un (.ld d 1 false x)
abbrev G.y (s:Nat) (o:AOp):G:=⟨some (s,true),o⟩
abbrev G.n (s:Nat) (o:AOp):G:=⟨some (s,false),o⟩
abbrev G.mov (d:Nat) (x:X):G:=⟨none,.mov d x⟩
abbrev G.asg (d:Nat) (x:X):G:=⟨none,.asg d x⟩
abbrev G.pick (d:Nat) (c x y:X):G:=⟨none,.pick d c x y⟩
abbrev G.bin (d:Nat) (o:BinOp) (x y:X):G:=⟨none,.bin d o x y⟩
abbrev G.un (d:Nat) (o:UnOp) (x:X):G:=⟨none,.un d o x⟩
abbrev G.len (d:Nat) (x:X):G:=⟨none,.len d x⟩
abbrev G.ext (d:Nat) (x:X) (i:Nat):G:=⟨none,.ext d x i⟩
abbrev G.iad (d m:Nat) (x i:X):G:=⟨none,.iad d m x i⟩
abbrev G.fadr (d o:Nat) (x:X):G:=⟨none,.fadr d o x⟩
abbrev G.ld (d n:Nat) (g:Bool) (x:X):G:=⟨none,.ld d n g x⟩
abbrev G.st (n:Nat) (x v:X):G:=⟨none,.st n x v⟩
abbrev G.box (d:Nat) (x:X):G:=⟨none,.box d x⟩
abbrev G.alc (d:Nat) (z:V):G:=⟨none,.alc d z⟩
abbrev G.bsl (d m:Nat) (l:List X):G:=⟨none,.bsl d m l⟩
abbrev G.bld (d:Nat) (z:List V) (l:List (Nat×Nat×X)):G:=⟨none,.bld d z l⟩
abbrev G.app (d m:Nat) (x y:X):G:=⟨none,.app d m x y⟩
abbrev G.nck (d:Nat) (x:X):G:=⟨none,.nck d x⟩
abbrev G.call (d f:Nat) (l:List (X×Bool)):G:=⟨none,.call d f l⟩
def Uk (P:Program) (o:AOp) (K:St→Prop) (σ:St):Prop:=Sj P o K (Abr o σ)
def Ks (o:AOp) (σ:St):St:=match o.dst with
 | some d=>Ak d (.val (.tup [])) σ
 | none=>σ
def Cu (P:Program):List G→(St→Prop)→St→Prop
 | [],K,σ=>K σ
 | x::r,K,σ=>match x.g with
   | none=>Uk P x.o (Cu P r K) σ
   | some (s,want)=>match look σ s with
     | .val (.bool b)=>(b=want→Uk P x.o (Cu P r K) σ)∧(b=(!want)→Cu P r K (Ks x.o σ))
     | .val (.tup [])=>Cu P r K (Ks x.o σ)
     | _=>False
def Aaz (P:Program) (N:Nat) (o:Oper) (ao:AOp):Bool:=match ao with
 | .call d f as=>o.dst==some d&&decide (d<N)&&(match o.op with
   | .call { callee:= .value (.func f'),args,.. }=>f'==f&&Ob N (as.map (·.1)) args.toList
   | _=>false)
 | .cally d x as _=>o.dst==some d&&decide (d<N)&&(match o.op with
   | .call { callee:= .value c,args,.. }=>Au N x c&&Ob N as args.toList
   | _=>false)
 | ao=>Be P N o ao
def Pu (P:Program) (N:Nat) (ops:Array Oper) (x:G) (o:Oper):Bool:=Aaz P N o x.o&&o.dst==x.o.dst&&(match x.o.dst with | some d=>decide (d<N) | none=>true) &&
 (match x.g,o.guard with
 | none,none=>true
 | some (s,want),some (j,want')=>want==want'&&decide (s<N)&&(match (ops[j]?).bind (·.dst) with | some s'=>s'==s | none=>false)
 | _,_=>false)
def C8 (P:Program) (N:Nat) (ops:Array Oper):List G→List Oper→Bool
 | [],[]=>true
 | x::xs,o::os=>Pu P N ops x o&&C8 P N ops xs os
 | _,_=>false
theorem Anh {P:Program} {f:FuncId} {fn:Func} {c:Code} (hf:P.funcs[f]? = some fn) (hname:(fn.name == "runtime.NumGoroutine")=false) (hb:fn.body=some c) (args:Array Value) (w:World) :
  (callFunc f args).run P w = .ok (.enter f args) w:=by
 have hn:¬fn.name = "runtime.NumGoroutine" := by simpa using hname
 simp [callFunc,hf,hn,hb]
theorem A2f {w O f cs v fp} (h:RdL w O [.fclo f cs] [v] fp) : ∃us:List Value,v = .func (.func f) #[] us.toArray∧RdL w O (fzL cs) us fp:=by
 cases h with
 | leaf hl _=>cases hl
 | grp hg s t=>
   cases hg with
   | fclo _ _ _ _ e=>subst e;cases t;exact ⟨_,rfl,by simpa using s⟩
 | fblk hh _ _ _ _=>cases hh
 | oblk hh _ _ _ _ _=>cases hh
theorem Akq {σ a w O gv N vals fp} (h:Ok σ a w O gv N vals fp) {as:List (X×Bool)} {os:List Operand} (hf:Ob N (as.map (·.1)) os=true) :
  RelL w O (look σ) vals ((Eh σ as).map (·.1)) (os.map a.eval):=by
 have:=Abz h hf
 simpa [Eh,Function.comp_def] using this
theorem Adm {P:Program} {o:Oper} {ao:AOp} {σ a w O gv N vals fp} {K:St→Prop} {next Q} (hf:Aaz P N o ao=true) (h:Ok σ a w O gv N vals fp) (ha:Sj P ao K σ) (hn:Jq w O gv N fp K next) :
  o.wp P a w next Q:=by
 have other:(∀d f as,ao ≠ .call d f as)→(∀d x as ms,ao ≠ .cally d x as ms)→o.wp P a w next Q:=by
  intro h1 h2
  have hf':Be P N o ao=true:=by
   cases ao<;>first | exact hf | exact absurd rfl (h1 _ _ _) | exact absurd rfl (h2 _ _ _ _)
  by_cases h3 : ∃d m x y s e,ao = .apk d m x y s e
  ·obtain ⟨d,m,x,y,s,e,rfl⟩:=h3
   simp only [Be,Bool.and_eq_true,beq_iff_eq,decide_eq_true_eq] at hf'
   obtain ⟨⟨hd,hN⟩,hf'⟩:=hf'
   split at hf'
   case h_2=>cases hf'
   rename_i args ats ho
   split at hf'
   case h_2=>cases hf'
   rename_i x' y' t t' e1 e2
   simp only [Bool.and_eq_true,beq_iff_eq] at hf'
   obtain ⟨⟨⟨rfl,hx⟩,hy⟩,hg⟩:=hf'
   split at hg
   case h_2=>cases hg
   rename_i fi hts
   simp only [Bool.and_eq_true,beq_iff_eq,decide_eq_true_eq] at hg
   obtain ⟨⟨g1,g2⟩,g3⟩:=hg
   split at g2
   case h_2=>cases g2
   obtain ⟨e',k1,k2⟩:=C3 hts
   have a1:=Hk e1
   have a2:=Hk e2
   subst a1 a2
   simp only [Sj] at ha
   split at ha
   case h_2=>exact ha.elim
   rename_i ys σ1 hY
   split at ha
   case h_2=>exact ha.elim
   rename_i r hX
   split at ha
   case h_2=>exact ha.elim
   rename_i oo m' xs hL
   obtain ⟨⟨hS,rfl,rfl,c1,c2,c3,c4⟩,hk1,hk2⟩:=ha
   rcases A3v h ho hd hN hx hy k1 k2 g1 (by assumption) (by simpa using g2) g3 hY hX hS hL c1 c2 c3 c4 (ef:=e) with hs | ⟨b,c,hs⟩
   ·exact L6 hs hk1 hn
   ·exact L6 hs (hk2 b c) hn
  obtain ⟨O1,fp1,ho1,hm1⟩:=Azo ao h
  have ha':match Cm ao (Ag0 ao σ) with | some σ'=>K σ' | none=>False:=by
   cases ao<;>first | exact ha | exact absurd rfl (h1 _ _ _) | exact absurd rfl (h2 _ _ _ _) | exact absurd ⟨_,_,_,_,_,_,rfl⟩ h3
  split at ha'
  ·rename_i σ' hs
   exact L6 (On hf' ho1 hs) ha' (Jq.pre hn hm1)
  ·exact ha'.elim
 by_cases h1 : ∃d f as,ao = .call d f as
 ·obtain ⟨d,f,as,rfl⟩:=h1
  simp only [Aaz,Bool.and_eq_true,beq_iff_eq,decide_eq_true_eq] at hf
  obtain ⟨⟨hd,hN⟩,hf⟩:=hf
  split at hf
  case h_2=>cases hf
  rename_i f' args ats ho
  simp only [Bool.and_eq_true,beq_iff_eq] at hf
  obtain ⟨rfl,hx⟩:=hf
  refine Ajp h hd hN (Akq h hx) ha hn ?_
  rintro ⟨fn,c,g1,g2,g3⟩
  have e:(args.toList.map a.eval).toArray=args.map a.eval:=by rw [←Array.toList_map]
  rw [e]
  have:=Anh (P:=P) g1 g2 g3 (args.map a.eval) w
  simp [execOp,ho,resolve,Act.eval,Deferred.ofValue,invoke,this]
 by_cases h2 : ∃d x as ms,ao = .cally d x as ms
 ·obtain ⟨d,x,as,ms,rfl⟩:=h2
  simp only [Aaz,Bool.and_eq_true,beq_iff_eq,decide_eq_true_eq] at hf
  obtain ⟨⟨hd,hN⟩,hf⟩:=hf
  split at hf
  case h_2=>cases hf
  rename_i c args ats ho
  simp only [Bool.and_eq_true] at hf
  obtain ⟨hx,has⟩:=hf
  simp only [Sj] at ha
  have hrx:=Ap h hx
  have hrx0:=A0p h hrx
  have hras:=Akq h (as:=as.map (·,false)) (os:=args.toList) (by simpa [Function.comp_def] using has)
  split at ha
  case h_2=>exact ha.elim
  rename_i f cs hclo
  obtain ⟨us,hval,hus⟩ : ∃us:List Value,a.eval c = .func (.func f) #[] us.toArray∧RelL w O (look σ) vals (cs.map (·.1)) us:=by
   generalize Aqb σ (Ai σ x)=y at hrx0 hclo
   generalize a.eval c=v at hrx0
   cases hrx0 with
   | @val z v _ _ hn' hr _=>
     cases z with
     | clo f' cs'=>
       simp [Zz] at hclo
       obtain ⟨rfl,rfl⟩:=hclo
       obtain ⟨us,rfl,s⟩:=A3e hr
       refine ⟨us,rfl,?_⟩
       have:=Z8 (L:=look σ) (vals:=vals) s (by simpa [V.hasOwn] using hn')
       simpa [Function.comp_def] using this
     | fclo f' cs'=>
       simp [Zz] at hclo
       obtain ⟨rfl,rfl⟩:=hclo
       obtain ⟨us,rfl,s⟩:=A2f hr
       refine ⟨us,rfl,?_⟩
       have:=Z8 (L:=look σ) (vals:=vals) s (Oy cs')
       simpa [Function.comp_def] using this
     | _=>simp [Zz] at hclo
   | clo s t=>cases t;simp [Zz] at hclo;obtain ⟨rfl,rfl⟩:=hclo;exact ⟨_,rfl,by rw [Ae1];exact s⟩
   | _=>simp [Zz] at hclo
  refine Ajp (us:=args.toList.map a.eval++us) h hd hN (by rw [List.map_append];exact hras.append hus) ha hn ?_
  rintro ⟨fn,c',g1,g2,g3⟩
  have e:(args.toList.map a.eval++us).toArray=args.map a.eval++us.toArray:=by
   apply Array.toList_inj.1;simp
  rw [e]
  have:=Anh (P:=P) g1 g2 g3 (args.map a.eval++us.toArray) w
  simp [execOp,ho,resolve,hval,Deferred.ofValue,invoke,this]
 exact other (fun d f as e=>h1 ⟨d,f,as,e⟩) (fun d x as ms e=>h2 ⟨d,x,as,ms,e⟩)
theorem Aox {σ a w O gv N vals fp} {ao:AOp} {o:Oper} (h:Ok σ a w O gv N vals fp) (hd:o.dst=ao.dst) (hN : ∀d,ao.dst=some d→d<N) :
  ∃vals' fp',Ok (Ks ao σ) (a.put o.dst undef) w O gv N vals' fp'∧(∀b,Sof fp' b→Sof fp b):=by
 rw [hd]
 unfold Ks
 cases hdst:ao.dst with
 | none=>exact ⟨vals,fp,h,fun _=>id⟩
 | some d=>
   obtain ⟨fp',h1,h2⟩:=h.put_rel (hN d hdst) (x:= .val (.tup [])) (v:=undef) (.val rfl (RdL.grp (fp1:=[]) (fp2:=[]) (.tup [] []) .nil .nil) .nil)
   exact ⟨_,fp',h1,h2⟩
theorem V9 {σ a w O gv N vals fp} (h:Ok σ a w O gv N vals fp) {ops:Array Oper} {j s:Nat} {b:Bool} (hj:(ops[j]?).bind (·.dst)=some s) (hs:s<N) (hb:look σ s = .val (.bool b)) :
  yielded ops a.tmps j=some b:=by
 have hv:vals s = .bool b:=D3 (h.sim.own s _ hb)
 rw [h.lo s hs] at hv
 unfold yielded
 rw [hj]
 have:a.tmps[s]? = some (.bool b):=by
  have hlt:s<a.tmps.size:=by rw [h.sz];exact hs
  simp [hlt] at hv ⊢
  exact hv
 simp [this]
theorem Tm {σ a w O gv N vals fp} (h:Ok σ a w O gv N vals fp) {ops:Array Oper} {j s:Nat} (hj:(ops[j]?).bind (·.dst)=some s) (hs:s<N) (hb:look σ s = .val (.tup [])) :
  yielded ops a.tmps j=none:=by
 obtain ⟨vs,hv,hr⟩:=Aun (h.sim.own s _ hb)
 have hl:=hr.length
 obtain rfl:vs=[]:=by simpa using hl
 rw [h.lo s hs] at hv
 unfold yielded
 rw [hj]
 have:a.tmps[s]? = some (.tuple #[]):=by
  have hlt:s<a.tmps.size:=by rw [h.sz];exact hs
  simp [hlt] at hv ⊢
  exact hv
 simp [this]
theorem Am9 {P:Program} {o:Oper} {ao:AOp} {σ a w O gv N vals fp} {K:St→Prop} {next Q} (hf:Aaz P N o ao=true) (h:Ok σ a w O gv N vals fp) (ha:Uk P ao K σ) (hn:Jq w O gv N fp K next) :
  o.wp P a w next Q:=by
 obtain ⟨O1,fp1,ho1,hm1⟩:=Awz ao h
 exact Adm hf ho1 ha (Jq.pre hn hm1)
theorem Akd {P:Program} {ops:Array Oper} {Q:Exit→Act→World→Prop} {os2:List Oper} : ∀ {gs:List G} {os:List Oper} {σ a w O gv N vals fp} {K:St→Prop},C8 P N ops gs os=true→Ok σ a w O gv N vals fp→Cu P gs K σ →
  Jq w O gv N fp K (wpList P ops Q os2)→wpList P ops Q (os++os2) a w:=by
 intro gs
 induction gs with
 | nil=>
   intro os σ a w O gv N vals fp K hf h ha hn
   cases os with
   | nil=>exact hn _ _ _ _ _ _ ha h (Mv.refl _ _ _)
   | cons _ _=>simp [C8] at hf
 | cons x r ih=>
   intro os σ a w O gv N vals fp K hf h ha hn
   cases os with
   | nil=>simp [C8] at hf
   | cons o os=>
     simp only [C8,Bool.and_eq_true] at hf
     obtain ⟨hx,hr⟩:=hf
     simp only [Pu,Bool.and_eq_true,beq_iff_eq] at hx
     obtain ⟨⟨⟨hfo,hdst⟩,hdN⟩,hg⟩:=hx
     have hdN' : ∀d,x.o.dst=some d→d<N:=by
      intro d hd;rw [hd] at hdN;simpa using hdN
     have run:Uk P x.o (Cu P r K) σ→o.wp P a w (wpList P ops Q (os++os2)) Q:=fun hh=>
      Am9 hfo h hh fun σ' a' w' O' vals' fp' hk ho hm=>ih hr ho hk (hn.pre hm)
     have skip:Cu P r K (Ks x.o σ)→wpList P ops Q (os++os2) (a.put o.dst undef) w:=fun hh=>by
      obtain ⟨vals',fp',h1,h2⟩:=Aox h hdst hdN'
      exact ih hr h1 hh (hn.pre ((Mv.refl _ _ _).shrink h2))
     simp only [Cu] at ha
     simp only [List.cons_append,wpList]
     split at ha
     ·rename_i hxg
      rw [hxg] at hg
      cases hog:o.guard with
      | none=>
        have hw:Region.wanted o (yielded ops a.tmps)=true:=by simp [Region.wanted,hog]
        rw [if_pos hw]
        exact .inl (run ha)
      | some q=>rw [hog] at hg;simp at hg
     ·rename_i s want hxg
      rw [hxg] at hg
      cases hog:o.guard with
      | none=>rw [hog] at hg;simp at hg
      | some q=>
        obtain ⟨j,want'⟩:=q
        rw [hog] at hg
        simp only [Bool.and_eq_true,beq_iff_eq,decide_eq_true_eq] at hg
        obtain ⟨⟨rfl,hsN⟩,hj⟩:=hg
        split at hj
        case h_2=>cases hj
        rename_i s2 hs2
        have:s2=s:=by simpa using hj
        subst this
        split at ha
        case h_3=>exact ha.elim
        case h_2=>
         rename_i hb
         have hw:Region.wanted o (yielded ops a.tmps)=false:=by simp [Region.wanted,hog,Tm h hs2 hsN hb]
         rw [if_neg (by simp [hw])]
         exact skip ha
        rename_i b hb
        have hy:=V9 h hs2 hsN hb
        have hwn:Region.wanted o (yielded ops a.tmps)=(b==want):=by
         simp [Region.wanted,hog,hy]
        rw [hwn]
        by_cases hbw:b=want
        ·rw [if_pos (by simpa using hbw)]
         exact .inl (run (ha.1 hbw))
        ·have hbn:b=(!want):=by cases b<;>cases want<;>simp_all
         rw [if_neg (by simpa using hbw)]
         exact skip (ha.2 hbn)
theorem Af9 {P:Program} {ops:Array Oper} {Q:Exit→Act→World→Prop} {gs:List G} {os:List Oper} {σ a w O gv N vals fp} {K:St→Prop} (hf:C8 P N ops gs os=true) (h:Ok σ a w O gv N vals fp) (ha:Cu P gs K σ)
  (hn:Jq w O gv N fp K (Q .normal)):wpList P ops Q os a w:=by
 have:=Akd (os2:=[]) (Q:=Q) hf h ha hn
 rwa [List.append_nil] at this
end Go.Proofs.Ytmmcfdfdacpjgaa.Ax
namespace Go.Proofs.Ytmmcfdfdacpjgaa.Ax
open Go
def nt:A→Option A
 | .top=>none
 | a=>some a
def qR:AOp→St→Option (Nat×A)
 | .mov d x,σ=>(nt (Ai σ x)).map fun a=>(d,upA a)
 | .asg d x,σ=>match Ai σ x with
   | .val v=>some (d,.val v.up)
   | _=>none
 | .pick d c x y,σ=>match Ai σ c with
   | .val (.bool b)=>(nt (if b then Ai σ x else Ai σ y)).map (d,·)
   | _=>none
 | .bin d op x y,σ=>match Do (Ai σ x),Do (Ai σ y) with
   | some u,some v=>if u.isBool then none else (Sa op u v).map fun r=>(d,.val r)
   | _,_=>none
 | .binb d op x y,σ=>match Do (Ai σ x),Do (Ai σ y) with
   | some u,some v=>(Sa op u v).map fun r=>(d,.val r)
   | _,_=>none
 | .un d op x,σ=>match Do (Ai σ x) with
   | some u=>(unV op u).map fun r=>(d,.val r)
   | none=>none
 | .cnv d k x,σ=>match Do (Ai σ x) with
   | some u=>(A15 k u).map fun r=>(d,.val r)
   | none=>none
 | .len d x,σ=>(Afh σ (Ai σ x)).map fun (n:Nat)=>(d,A.val (V.int .i64 (n:Int)))
 | .sidx d x i,σ=>match Ai σ x,Ai σ i with
   | .val (.str s),.val (.int _ j)=>if 0≤j∧j<(s.size:Int) then some (d,.val (.int .u8 (Ag5 s j))) else none
   | _,_=>none
 | .ext d x i,σ=>match Ai σ x with
   | .val (.tup vs)=>(vs[i]?).map fun v=>(d,.val v)
   | .ref r p=>match B0 σ r p with
     | some (.tup vs)=>(vs[i]?).map fun v=>(d,Ax4 r p i v)
     | _=>none
   | _=>none
 | .iad d m x i,σ=>match Ai σ x,Ai σ i with
   | .val (.sl _ m' xs),.val (.int _ j)=>if m'=m∧0≤j∧j<xs.length then some (d,.fad (xs.getD j.toNat .dead).cells) else none
   | .ref r p,.val (.int _ j)=>match B0 σ r p with
     | some (.sl o m' xs)=>if o=true∧m'=m∧0≤j∧j<xs.length then some (d,.addr r p (j.toNat*m)) else none
     | _=>none
   | _,_=>none
 | .fadr d off x,σ=>(H8 σ (Ai σ x)).map fun l=>(d,Auf off l)
 | .ld d n ag x,σ=>match H8 σ (Ai σ x) with
   | some l=>(Aat σ n ag l).map (d,·)
   | none=>none
 | .nck d x,σ=>(H8 σ (Ai σ x)).map fun _=>(d,Ai σ x)
 | .mk d m z x,σ=>match Ai σ x with
   | .val (.int _ n)=>if 0≤n∧n≤(LIM:Int) then some (d,.val (.sl true m (List.replicate n.toNat z.up))) else none
   | _=>none
 | .mkc d m _ x,σ=>match Ai σ x with
   | .val (.int _ n)=>if 0≤n∧n≤(LIM:Int) then some (d,.val (.sl true m [])) else none
   | _=>none
 | .alc d z,_=>if Cj z.cells then some (d,.val (.ptr true z.up)) else none
 | .bsl d m ps,σ=>match Jc (ps.map (Ai σ)) with
   | some Us=>if Sd m (upL Us) then some (d,.val (.sl true m (upL Us))) else none
   | none=>none
 | .mkr d m z x,σ=>match Ai σ x with
   | .val (.int _ n)=>if 0≤n∧n≤(LIM:Int) then some (d,.val (V.sl true m (List.replicate n.toNat z.up)).fz) else none
   | _=>none
 | .bslr d m ps,σ=>match Jc (ps.map (Ai σ)) with
   | some Us=>if Sd m (upL Us) then some (d,.val (V.sl true m (upL Us)).fz) else none
   | none=>none
 | .bld d z ps,σ=>(Acx σ (z.map .val) ps).map fun as=>(d,upA (mkA true as))
 | .slc d m x lo hi,σ=>(Aiv m (Ai σ x) (lo.map (Ai σ)) (hi.map (Ai σ))).map fun v=>(d,A.val v)
 | .mkf d f cs,σ=>match (cs.map (Ai σ)).all (fun a=>(nt a).isSome) with
   | true=>some (d,A2k f (cs.map (Ai σ)))
   | false=>none
 | .box d x,σ=>match Ai σ x with
   | .val U=>if Cj U.up.cells then some (d,.val (.ptr true U.up)) else none
   | _=>none
 | .mkm d kd,_=>some (d,.val (.mp true (A0i kd)))
 | .mlk d x k z ok kd,σ=>match mpA σ (Ai σ x),Do (Ai σ k) with
   | some es,some u=>(A2c kd es u z ok).map fun v=>(d,.val v)
   | _,_=>none
 | .bstr d x,σ=>match slA σ (Ai σ x) with
   | some (m,xs)=>if m=1 then (P2 xs).map fun ns=>(d,A.val (.str (Xp ns))) else none
   | none=>none
 | _,_=>none
theorem Agk {σ:St} : ∀ {as:List A} {Us},Jc as=some Us→Od σ as=some (upL Us,σ):=by
 intro as
 induction as with
 | nil=>intro Us h;simp [Jc] at h;subst h;rfl
 | cons a r ih=>
   intro Us h
   cases a with
   | val v=>
     simp only [Jc] at h
     obtain ⟨vs,h1,rfl⟩:=Option.map_eq_some_iff.1 h
     simp [Od,Ie,Fv,ih h1,upL]
   | _=>simp [Jc] at h
theorem Ap0 {o:AOp} {σ:St} {d:Nat} {a:A} (h:qR o σ=some (d,a)):Cm o σ=some (Ak d a σ)∧o.dst=some d:=by
 cases o<;>simp only [qR] at h
 case mov d' x=>
  obtain ⟨b,h1,h2⟩:=Option.map_eq_some_iff.1 h
  cases h2
  have:Ai σ x=b:=by unfold nt at h1;split at h1<;>simp_all
  exact ⟨by simp [Cm,this],rfl⟩
 case asg d' x=>
  split at h
  case h_2=>cases h
  rename_i v hv
  cases h
  exact ⟨by simp [Cm,Aq5,hv,upA],rfl⟩
 case pick d' c x y=>
  split at h
  case h_2=>cases h
  rename_i b hb
  obtain ⟨z,h1,h2⟩:=Option.map_eq_some_iff.1 h
  cases h2
  have:(if b=true then Ai σ x else Ai σ y)=a:=by unfold nt at h1;split at h1<;>simp_all
  exact ⟨by simp [Cm,hb,Anr,this],rfl⟩
 case bin d' op x y=>
  split at h
  case h_2=>cases h
  rename_i u v hu hv
  split at h
  ·cases h
  ·rename_i hb
   obtain ⟨z,h1,h2⟩:=Option.map_eq_some_iff.1 h
   cases h2
   exact ⟨by simp [Cm,A3h,Axo,hu,hv,hb,h1],rfl⟩
 case binb d' op x y=>
  split at h
  case h_2=>cases h
  rename_i u v hu hv
  obtain ⟨z,h1,h2⟩:=Option.map_eq_some_iff.1 h
  cases h2
  exact ⟨by simp [Cm,Axo,hu,hv,h1],rfl⟩
 case un d' op x=>
  split at h
  case h_2=>cases h
  rename_i u hu
  obtain ⟨z,h1,h2⟩:=Option.map_eq_some_iff.1 h
  cases h2
  exact ⟨by simp [Cm,unS,hu,h1],rfl⟩
 case cnv d' k x=>
  split at h
  case h_2=>cases h
  rename_i u hu
  obtain ⟨z,h1,h2⟩:=Option.map_eq_some_iff.1 h
  cases h2
  exact ⟨by simp [Cm,A2o,hu,h1],rfl⟩
 case len d' x=>
  obtain ⟨z,h1,h2⟩:=Option.map_eq_some_iff.1 h
  cases h2
  exact ⟨by simp [Cm,A4c,h1],rfl⟩
 case sidx d' x i=>
  split at h
  case h_2=>cases h
  rename_i s k j hx hi
  split at h
  ·rename_i hc;cases h;exact ⟨by simp [Cm,Au0,hx,hi,hc],rfl⟩
  ·cases h
 case ext d' x i=>
  split at h
  ·rename_i vs hx
   obtain ⟨z,h1,h2⟩:=Option.map_eq_some_iff.1 h
   cases h2
   exact ⟨by simp [Cm,Ata,hx,h1],rfl⟩
  ·rename_i r p hx
   split at h
   case h_2=>cases h
   rename_i vs hn
   obtain ⟨z,h1,h2⟩:=Option.map_eq_some_iff.1 h
   cases h2
   exact ⟨by simp [Cm,Ata,hx,hn,h1],rfl⟩
  ·cases h
 case iad d' m x i=>
  split at h
  ·rename_i o m' xs k j hx hi
   split at h
   ·rename_i hc;cases h;exact ⟨by simp [Cm,Azu,hx,hi,hc],rfl⟩
   ·cases h
  ·rename_i r p k j hx hi
   split at h
   case h_2=>cases h
   rename_i o m' xs hn
   split at h
   ·rename_i hc;cases h;exact ⟨by simp [Cm,Azu,hx,hi,hn,hc],rfl⟩
   ·cases h
  ·cases h
 case fadr d' off x=>
  obtain ⟨z,h1,h2⟩:=Option.map_eq_some_iff.1 h
  cases h2
  exact ⟨by simp [Cm,Avq,h1],rfl⟩
 case ld d' n ag x=>
  split at h
  case h_2=>cases h
  rename_i l hl
  obtain ⟨z,h1,h2⟩:=Option.map_eq_some_iff.1 h
  cases h2
  exact ⟨by simp [Cm,ldS,hl,h1],rfl⟩
 case nck d' x=>
  obtain ⟨z,h1,h2⟩:=Option.map_eq_some_iff.1 h
  cases h2
  exact ⟨by simp [Cm,A16,h1],rfl⟩
 case mk d' m z x=>
  split at h
  case h_2=>cases h
  rename_i k n hx
  split at h
  ·rename_i hc;cases h;exact ⟨by simp [Cm,mkS,hx,hc],rfl⟩
  ·cases h
 case mkc d' m z x=>
  split at h
  case h_2=>cases h
  rename_i k n hx
  split at h
  ·rename_i hc;cases h;exact ⟨by simp [Cm,Axv,hx,hc],rfl⟩
  ·cases h
 case alc d' z=>
  split at h
  ·rename_i hc;cases h;exact ⟨by simp [Cm,A1b,hc],rfl⟩
  ·cases h
 case bsl d' m ps=>
  split at h
  case h_2=>cases h
  rename_i Us hU
  split at h
  ·rename_i hc;cases h;exact ⟨by simp [Cm,Asy,Agk hU,hc],rfl⟩
  ·cases h
 case mkr d' m z x=>
  split at h
  case h_2=>cases h
  rename_i k n hx
  split at h
  ·rename_i hc;cases h;exact ⟨by simp [Cm,A1k,hx,hc],rfl⟩
  ·cases h
 case bslr d' m ps=>
  split at h
  case h_2=>cases h
  rename_i Us hU
  split at h
  ·rename_i hc;cases h;exact ⟨by simp [Cm,Avo,Agk hU,hc],rfl⟩
  ·cases h
 case bld d' z ps=>
  obtain ⟨v,h1,h2⟩:=Option.map_eq_some_iff.1 h
  cases h2
  exact ⟨by simp [Cm,A2p,h1],rfl⟩
 case slc d' m x lo hi=>
  obtain ⟨v,h1,h2⟩:=Option.map_eq_some_iff.1 h
  cases h2
  exact ⟨by simp [Cm,A04,h1],rfl⟩
 case mkf d' f cs=>
  split at h
  ·cases h;exact ⟨rfl,rfl⟩
  ·cases h
 case box d' x=>
  split at h
  case h_2=>cases h
  rename_i U hU
  split at h
  ·rename_i hc;cases h;exact ⟨by simp [Cm,A1z,hU,Ie,Fv,hc,Ap1],rfl⟩
  ·cases h
 case mlk d' x k z ok kd=>
  split at h
  case h_2=>cases h
  rename_i es u h1 h2
  obtain ⟨v,h3,h4⟩:=Option.map_eq_some_iff.1 h
  cases h4
  exact ⟨by simp only [Cm,A1h,h1,h2,h3,Option.map_some],rfl⟩
 case bstr d' x=>
  split at h
  case h_2=>cases h
  rename_i m xs h1
  split at h
  case isFalse=>cases h
  rename_i hm
  obtain ⟨ns,h2,h3⟩:=Option.map_eq_some_iff.1 h
  cases h3
  exact ⟨by simp [Cm,Avh,h1,hm,h2],rfl⟩
 all_goals cases h
 exact ⟨rfl,rfl⟩
def Le (σ τ:St):Prop := ∀s,look σ s = .top∨look τ s=look σ s
theorem Az {σ τ} (h:Le σ τ) (x:X):Ai σ x = .top∨Ai τ x=Ai σ x:=by
 cases x with
 | c v=>exact .inr rfl
 | t s=>
   rcases h s with h1 | h1
   ·left;simp [Ai,h1]
   ·right;simp [Ai,h1]
theorem Ef {σ τ r p u} (h:Le σ τ) (hn:B0 σ r p=some u):B0 τ r p=some u:=by
 unfold B0 at *
 rcases h r with h1 | h1
 ·rw [h1] at hn;cases hn
 rw [h1];exact hn
theorem Abw {σ τ a l} (h:Le σ τ) (hl:H8 σ a=some l):H8 τ a=some l:=by
 cases a with
 | ref r p=>
   simp only [H8] at *
   cases hn:B0 σ r p with
   | none=>rw [hn] at hl;cases hl
   | some u=>rw [hn] at hl;rw [Ef h hn];exact hl
 | val v=>cases v<;>exact hl
 | _=>exact hl
theorem At5 {σ τ n ag l a} (h:Le σ τ) (hl:Aat σ n ag l=some a):Aat τ n ag l=some a:=by
 cases l with
 | own r p c=>
   simp only [Aat] at *
   cases hn:B0 σ r p with
   | none=>rw [hn] at hl;cases hl
   | some u=>rw [hn] at hl;rw [Ef h hn];exact hl
 | fro cs=>exact hl
theorem Axi {σ τ a n} (h:Le σ τ) (hl:Afh σ a=some n):Afh τ a=some n:=by
 cases a with
 | ref r p=>
   simp only [Afh] at *
   cases hn:B0 σ r p with
   | none=>rw [hn] at hl;cases hl
   | some u=>rw [hn] at hl;rw [Ef h hn];exact hl
 | val v=>cases v<;>exact hl
 | _=>exact hl
theorem Ayt {σ τ a n} (h:Le σ τ) (hl:mpA σ a=some n):mpA τ a=some n:=by
 cases a with
 | ref r p=>
   simp only [mpA] at *
   cases hn:B0 σ r p with
   | none=>rw [hn] at hl;cases hl
   | some u=>rw [hn] at hl;rw [Ef h hn];exact hl
 | val v=>cases v<;>exact hl
 | _=>exact hl
theorem Azs {σ τ a n} (h:Le σ τ) (hl:slA σ a=some n):slA τ a=some n:=by
 cases a with
 | ref r p=>
   simp only [slA] at *
   cases hn:B0 σ r p with
   | none=>rw [hn] at hl;cases hl
   | some u=>rw [hn] at hl;rw [Ef h hn];exact hl
 | val v=>cases v<;>exact hl
 | _=>exact hl
theorem Tu {σ τ} (h:Le σ τ) : ∀ {xs:List X},(∀x∈xs,Ai σ x ≠ .top)→xs.map (Ai τ)=xs.map (Ai σ):=by
 intro xs
 induction xs with
 | nil=>intro _;rfl
 | cons x r ih=>
   intro hx
   simp only [List.map_cons]
   rw [ih fun y hy=>hx y (by simp [hy])]
   rcases Az h x with h1 | h1
   ·exact absurd h1 (hx x (by simp))
   ·rw [h1]
theorem Ael : ∀ {xs:List X} {σ Us},Jc (xs.map (Ai σ))=some Us → ∀x∈xs,Ai σ x ≠ .top:=by
 intro xs
 induction xs with
 | nil=>intro σ Us _ x hx;simp at hx
 | cons y r ih=>
   intro σ Us h x hx
   simp only [List.map_cons] at h
   cases hy:Ai σ y with
   | val v=>
     rw [hy] at h
     simp only [Jc] at h
     obtain ⟨vs,h1,_⟩:=Option.map_eq_some_iff.1 h
     rcases List.mem_cons.1 hx with rfl | hx
     ·rw [hy];simp
     ·exact ih h1 x hx
   | _=>rw [hy] at h;simp [Jc] at h
theorem Ase {σ τ a as} (h:Le σ τ) (hc:Mq σ a=some as):Mq τ a=some as:=by
 cases a with
 | ref r p=>
   simp only [Mq] at hc ⊢
   cases hn:B0 σ r p with
   | none=>rw [hn] at hc;cases hc
   | some u=>rw [hn] at hc;rw [Ef h hn];exact hc
 | val v=>cases v<;>exact hc
 | top=>cases hc
 | _=>exact hc
theorem Auq {σ τ} (h:Le σ τ) : ∀ {ps:List (Nat×Nat×X)} {cells as:List A},Acx σ cells ps=some as→Acx τ cells ps=some as:=by
 intro ps
 induction ps with
 | nil=>intro cells as hb;exact hb
 | cons e r ih=>
   obtain ⟨off,size,x⟩:=e
   intro cells as hb
   simp only [Acx] at hb ⊢
   split at hb
   case h_2=>cases hb
   rename_i cs hcs
   rcases Az h x with e | e
   ·rw [e] at hcs;cases hcs
   ·rw [e,Ase h hcs]
    split at hb
    ·rename_i hc
     simp only [hc,and_self,if_true]
     exact ih hb
    ·cases hb
theorem A1u {o:AOp} {σ τ:St} {r} (h:Le σ τ) (hq:qR o σ=some r):qR o τ=some r:=by
 cases o<;>simp only [qR] at hq ⊢
 case mov d x=>
  rcases Az h x with e | e
  ·simp [e,nt] at hq
  ·rw [e];exact hq
 case asg d x=>
  rcases Az h x with e | e
  ·simp [e] at hq
  ·rw [e];exact hq
 case pick d c x y=>
  rcases Az h c with e | e
  ·simp [e] at hq
  ·rw [e]
   split at hq
   case h_2=>cases hq
   rename_i b hb
   try simp only [hb]
   cases b
   ·rcases Az h y with e' | e'
    ·simp [e',nt] at hq
    ·rw [e'];exact hq
   ·rcases Az h x with e' | e'
    ·simp [e',nt] at hq
    ·rw [e'];exact hq
 case bin d op x y=>
  rcases Az h x with e | e
  ·simp [e,Do] at hq
  ·rcases Az h y with e' | e'
   ·simp [e',Do] at hq
   ·rw [e,e'];exact hq
 case binb d op x y=>
  rcases Az h x with e | e
  ·simp [e,Do] at hq
  ·rcases Az h y with e' | e'
   ·simp [e',Do] at hq
   ·rw [e,e'];exact hq
 case un d op x=>
  rcases Az h x with e | e
  ·simp [e,Do] at hq
  ·rw [e];exact hq
 case cnv d k x=>
  rcases Az h x with e | e
  ·simp [e,Do] at hq
  ·rw [e];exact hq
 case len d x=>
  rcases Az h x with e | e
  ·simp [e,Afh] at hq
  ·rw [e]
   obtain ⟨z,h1,h2⟩:=Option.map_eq_some_iff.1 hq
   rw [Axi h h1];exact congrArg some h2
 case sidx d x i=>
  rcases Az h x with e | e
  ·simp [e] at hq
  ·rcases Az h i with e' | e'
   ·rw [e'] at hq;split at hq<;>simp_all
   ·rw [e,e'];exact hq
 case ext d x i=>
  rcases Az h x with e | e
  ·simp [e] at hq
  ·rw [e]
   split at hq
   ·rename_i vs hx;exact hq
   ·rename_i r' p hx
    try simp only [hx]
    cases hn:B0 σ r' p with
    | none=>rw [hn] at hq;cases hq
    | some u=>rw [hn] at hq;rw [Ef h hn];exact hq
   ·cases hq
 case iad d m x i=>
  rcases Az h x with e | e
  ·simp [e] at hq
  ·rcases Az h i with e' | e'
   ·rw [e'] at hq;split at hq<;>simp_all
   ·rw [e,e']
    split at hq
    ·rename_i hx hi;exact hq
    ·rename_i r' p k j hx hi
     try simp only [hx,hi]
     cases hn:B0 σ r' p with
     | none=>rw [hn] at hq;cases hq
     | some u=>rw [hn] at hq;rw [Ef h hn];exact hq
    ·cases hq
 case fadr d off x=>
  rcases Az h x with e | e
  ·simp [e,H8] at hq
  ·rw [e]
   obtain ⟨z,h1,h2⟩:=Option.map_eq_some_iff.1 hq
   rw [Abw h h1];exact congrArg some h2
 case ld d n ag x=>
  rcases Az h x with e | e
  ·simp [e,H8] at hq
  ·rw [e]
   split at hq
   case h_2=>cases hq
   rename_i l hl
   obtain ⟨z,h1,h2⟩:=Option.map_eq_some_iff.1 hq
   simp only [Abw h hl,At5 h h1];exact congrArg some h2
 case nck d x=>
  rcases Az h x with e | e
  ·simp [e,H8] at hq
  ·rw [e]
   obtain ⟨z,h1,h2⟩:=Option.map_eq_some_iff.1 hq
   rw [Abw h h1];exact congrArg some h2
 case mk d m z x=>
  rcases Az h x with e | e
  ·simp [e] at hq
  ·rw [e];exact hq
 case mkc d m z x=>
  rcases Az h x with e | e
  ·simp [e] at hq
  ·rw [e];exact hq
 case alc d z=>exact hq
 case bsl d m ps=>
  split at hq
  case h_2=>cases hq
  rename_i Us hU
  rw [Tu h (Ael hU),hU];exact hq
 case mkr d m z x=>
  rcases Az h x with e | e
  ·simp [e] at hq
  ·rw [e];exact hq
 case bslr d m ps=>
  split at hq
  case h_2=>cases hq
  rename_i Us hU
  rw [Tu h (Ael hU),hU];exact hq
 case bld d z ps=>
  obtain ⟨as,h1,h2⟩:=Option.map_eq_some_iff.1 hq
  rw [Auq h h1];simpa using h2
 case slc d m x lo hi=>
  rcases Az h x with e | e
  ·rw [e] at hq;simp [Aiv] at hq
  rw [e]
  have hlo:lo.map (Ai τ)=lo.map (Ai σ):=by
   cases lo with
   | none=>rfl
   | some y=>
     rcases Az h y with e' | e'
     ·simp only [Option.map_some,e'] at hq;rw [A1s] at hq;cases hq
     ·simp [e']
  have hhi:hi.map (Ai τ)=hi.map (Ai σ):=by
   cases hi with
   | none=>rfl
   | some y=>
     rcases Az h y with e' | e'
     ·simp only [Option.map_some,e'] at hq;rw [A19] at hq;cases hq
     ·simp [e']
  rw [hlo,hhi];exact hq
 case mkf d f cs=>
  split at hq
  case h_2=>cases hq
  rename_i hall
  rw [Tu h]
  ·rw [hall];exact hq
  ·intro x hx hxt
   have:=List.all_eq_true.1 hall (Ai σ x) (List.mem_map.2 ⟨x,hx,rfl⟩)
   rw [hxt] at this;simp [nt] at this
 case box d x=>
  rcases Az h x with e | e
  ·simp [e] at hq
  ·rw [e];exact hq
 case mkm d kd=>exact hq
 case mlk d x k z ok kd=>
  rcases Az h x with e | e
  ·simp [e,mpA] at hq
  ·rcases Az h k with e' | e'
   ·rw [e'] at hq;simp [Do] at hq
   ·rw [e,e']
    split at hq
    case h_2=>cases hq
    rename_i es s h1 h2
    rw [Ayt h h1];simp only [h2];exact hq
 case bstr d x=>
  rcases Az h x with e | e
  ·simp [e,slA] at hq
  ·rw [e]
   split at hq
   case h_2=>cases hq
   rename_i m xs h1
   rw [Azs h h1];exact hq
 all_goals cases hq
mutual
theorem Afq {σ τ:St} (h:Le σ τ):(a:A)→(v:V)→M3 σ a=some v→M3 τ a=some v
 | .val _,_,hv=>hv
 | .ref r p,v,hv=>by
   simp only [M3] at *
   obtain ⟨u,h1,h2⟩:=Option.map_eq_some_iff.1 hv
   rw [Ef h h1];exact congrArg some h2
 | .agg as,v,hv=>by
   simp only [M3] at *
   obtain ⟨u,h1,h2⟩:=Option.map_eq_some_iff.1 hv
   rw [Afg h as u h1];exact congrArg some h2
 | .clo f as,v,hv=>by
   simp only [M3] at *
   obtain ⟨u,h1,h2⟩:=Option.map_eq_some_iff.1 hv
   rw [Afg h as u h1];exact congrArg some h2
 | .top,_,hv=>hv
 | .rfv _ _ _,_,hv=>hv
 | .addr _ _ _,_,hv=>hv
 | .fad _,_,hv=>hv
theorem Afg {σ τ:St} (h:Le σ τ):(as:List A)→(vs:List V)→Aea σ as=some vs→Aea τ as=some vs
 | [],_,hv=>hv
 | a::r,vs,hv=>by
   simp only [Aea] at *
   split at hv
   ·rename_i u us h1 h2
    rw [Afq h a u h1,Afg h r us h2];exact hv
   ·cases hv
end
theorem Aj6 {σ τ:St} (h:Le σ τ) : ∀ {as:List (X×Bool)} {k vs rs},(∀e∈as,e.2=false)→Ee σ (Eh σ as) k=some (vs,[],rs)→Ee τ (Eh τ as) k=some (vs,[],rs):=by
 intro as
 induction as with
 | nil=>intro k vs rs _ ha;exact ha
 | cons e r ih=>
   intro k vs rs hio ha
   obtain ⟨x,io⟩:=e
   have:io=false:=hio (x,io) (by simp)
   subst this
   simp only [Eh,List.map_cons,Ee] at ha ⊢
   split at ha
   ·cases ha
   ·rename_i vs' ls' rs' hr
    simp only [Bool.false_eq_true,if_false] at ha ⊢
    cases hres:M3 σ (Ai σ x) with
    | none=>rw [hres] at ha;cases ha
    | some v=>
      rw [hres] at ha
      simp only [Option.some.injEq,Prod.mk.injEq] at ha
      obtain ⟨rfl,rfl,rfl⟩:=ha
      have:=ih (fun e he=>hio e (by simp [he])) (k:=k+1) (vs:=vs') (rs:=rs') hr
      simp only [Eh] at this
      rw [this]
      rcases Az h x with e | e
      ·rw [e] at hres;simp [M3] at hres
      ·rw [e,Afq h _ _ hres]
end Go.Proofs.Ytmmcfdfdacpjgaa.Ax
namespace Go.Proofs.Ytmmcfdfdacpjgaa.Ax
open Go
def Av0:A→Bool
 | .top=>true
 | _=>false
def Eg (hide:List Nat):St→St
 | []=>[]
 | (d,a)::r=>if hide.contains d then Eg hide r else (d,a)::Eg hide r
def Bb (d:Nat):St→Bool
 | []=>false
 | (k,_)::r=>k==d || Bb d r
def Fw (d:Nat) (acc σ0:St):Bool := !Bb d acc&&Av0 (look σ0 d)
def At0:List X→List Nat
 | []=>[]
 | .t s::r=>s::At0 r
 | .c _::r=>At0 r
def Aim:AOp→List Nat
 | .app _ _ (.t s) _=>[s]
 | .bsl _ _ ps=>At0 ps
 | .asg _ (.t s)=>[s]
 | _=>[]
def N4:List Nat→St→St
 | [],σ=>σ
 | s::r,σ=>N4 r (Ak s .top σ)
def yN (σ:St) (m s:Nat):A→Option (List V)
 | .val (.sl _ m' ys)=>if m'=m then some ys else none
 | .val (.nilsl _)=>some []
 | .ref r p=>match B0 σ r p with
   | some (.sl o m' ys)=>if r≠s∧o=true∧m'=m∧A4 (Ay ys)=false then some ys else none
   | _=>none
 | _=>none
def Qq (σ:St):List X→Option (List V×List Nat)
 | []=>some ([],[])
 | .c v::r=>match Qq σ r with
   | some (vs,ks)=>some (v.up::vs,ks)
   | none=>none
 | .t s::r=>match look σ s with
   | .val v=>match Qq σ r with
     | some (vs,ks)=>match v.hasOwn with
       | true=>match ks.contains s with
         | true=>none
         | false=>some (v::vs,s::ks)
       | false=>some (v.up::vs,ks)
     | none=>none
   | _=>none
theorem Ako {σ:St} : ∀ {ps:List X} {Us ks},Qq σ ps=some (Us,ks)→(∀x∈ps,Ai σ x ≠ .top) ∧ ∀s∈ks,∃v,look σ s = .val v:=by
 intro ps
 induction ps with
 | nil=>intro Us ks h;simp only [Qq,Option.some.injEq,Prod.mk.injEq] at h;obtain ⟨_,rfl⟩:=h;simp
 | cons x r ih=>
   intro Us ks h
   cases x with
   | c v=>
     simp only [Qq] at h
     split at h
     case h_2=>cases h
     rename_i vs ks' h1
     cases h
     obtain ⟨a,b⟩:=ih h1
     exact ⟨fun y hy=>by
      rcases List.mem_cons.1 hy with rfl | hy
      ·simp [Ai]
      ·exact a y hy,b⟩
   | t s=>
     simp only [Qq] at h
     split at h
     case h_2=>cases h
     rename_i v hv
     split at h
     case h_2=>cases h
     rename_i vs ks' h1
     obtain ⟨a,b⟩:=ih h1
     have ha : ∀y∈X.t s::r,Ai σ y ≠ .top:=fun y hy=>by
      rcases List.mem_cons.1 hy with rfl | hy
      ·simp only [Ai,hv];split<;>simp
      ·exact a y hy
     split at h
     ·split at h
      ·cases h
      ·cases h
       exact ⟨ha,fun k hk=>by
        rcases List.mem_cons.1 hk with rfl | hk
        ·exact ⟨v,hv⟩
        ·exact b k hk⟩
     ·cases h;exact ⟨ha,b⟩
theorem Ap5 {σ:St} : ∀ {ps:List X} {Us ks} {τ:St},Qq σ ps=some (Us,ks)→(∀s∈ks,look τ s=look σ s)→Od τ (ps.map (Ai σ))=some (Us,N4 ks τ):=by
 intro ps
 induction ps with
 | nil=>intro Us ks τ h _;simp only [Qq,Option.some.injEq,Prod.mk.injEq] at h;obtain ⟨rfl,rfl⟩:=h;rfl
 | cons x r ih=>
   intro Us ks τ h hk
   cases x with
   | c v=>
     simp only [Qq] at h
     split at h
     case h_2=>cases h
     rename_i vs ks' h1
     cases h
     simp [Od,Ai,Ie,Fv,ih h1 hk]
   | t s=>
     simp only [Qq] at h
     split at h
     case h_2=>cases h
     rename_i v hv
     split at h
     case h_2=>cases h
     rename_i vs ks' h1
     split at h
     ·rename_i ho
      split at h
      ·cases h
      rename_i hc
      cases h
      have hs:s∉ks':=by simpa using hc
      have hL:look τ s = .val v:=by rw [hk s (by simp),hv]
      have hr:=ih (τ:=Ak s .top τ) h1 fun k hk2=>by
       obtain ⟨u,hu⟩:=(Ako h1).2 k hk2
       rw [D1,hu]
       simp only [Gw]
       rw [if_neg (by rintro rfl;exact hs hk2),hk k (by simp [hk2]),hu];rfl
      simp only [List.map_cons,Od,Ai,hv,ho,if_true,Ie,Fv,hL,hr,N4]
     ·rename_i ho
      cases h
      simp [Od,Ai,hv,ho,Ie,Fv,ih h1 hk]
def Qx (P:Program) (o:AOp) (σh:St) (cont:Nat→A→List Nat→Prop):Prop:=match o with
 | .call d f as=>as.all (fun e => !e.2)=true∧(match Ee σh (Eh σh as) 0 with
   | some (vs,[],rs) => ∃v,Tri P f vs (fun res _=>res=v∧Ea rs v=true)∧cont d (.val v) []
   | _=>False)
 | .cally d x as _=>(match Ai σh x with
   | .val (.fclo f cs)=>(match Ee σh (Eh σh (as.map (·,false))) 0 with
     | some (vs,[],rs) => ∃v,Tri P f (vs++fzL cs) (fun res _=>res=v∧Ea rs v=true)∧cont d (.val v) []
     | _=>False)
   | _=>False)
 | .app d m (.t s) y=>(match look σh s with
   | .val (.sl o m' xs)=>(match yN σh m s (Ai σh y) with
     | some ys=>(o=true∧m'=m∧Cj (Ay ys)=true∧xs.length+ys.length≤LIM)∧cont d (.val (.sl true m (xs++ys))) [s]
     | none=>False)
   | _=>False)
 | .bsl d m ps=>(match Qq σh ps with
   | some (Us,ks)=>Sd m Us=true∧cont d (.val (.sl true m Us)) ks
   | none=>False)
 | .asg d (.t s)=>(match look σh s with
   | .val v=>(match v.hasOwn with
     | true=>cont d (.val v) [s]
     | false=>cont d (.val v.up) [])
   | _=>False)
 | o=>match qR o σh with
   | some (d,a)=>cont d a []
   | none=>False
theorem Avt {P:Program} {o:Oper} {σ a w O gv N vals fp} {d s:Nat} {x'} {v:V} (h:Ok σ a w O gv N vals fp) (ho:o.op = .move x'∨o.op = .assign x') (hd:o.dst=some d) (hN:d<N)
  (hx:Au N (.t s) x'=true) (hL:look σ s = .val v) (hv:v.hasOwn=true):Bo P o (Ak d (.val v) (Ak s .top σ)) a w O gv N fp:=by
 have hr:=Ap h hx
 have hrun:(execOp a.eval o).run P w = .ok (.value (a.eval x')) w:=by rcases ho with ho | ho<;>simp [execOp,ho]
 have he:Ai σ (.t s) = .ref s []:=by simp [Ai,hL,hv]
 rw [he] at hr
 have hU:Fv σ (.ref s [])=some (v,Ak s .top σ):=by simp [Fv,hL]
 obtain ⟨fp1,fpV,o1,rV,nV,dV,s1⟩:=Pi h (Wb hr rfl).1 hU
 obtain ⟨fp2,o2,s2⟩:=o1.put_own hN rV nV (fun b hb=>(dV b hb).2)
 refine ⟨a.eval x',w,O,_,fp2,.inl hrun,by rw [hd];exact o2,(Mv.refl w O _).shrink fun b hb=> ?_⟩
 rcases s2 b hb with h3 | h3
 ·exact s1 b h3
 exact (dV b h3).1
def Ack (ks:List Nat) (o:AOp) (vis:St):Bool:=ks.all fun s=>Bb s vis&&(Aim o).contains s
def O9 (acc:St) (kl:List Nat):Bool:=acc.all fun e=>e.2.roots.all fun r => !kl.contains r
def Mp (o:AOp) (hide:List Nat):List Nat:=match o with
 | .call _ _ as=>(match Ant as with
   | []=>[]
   | _::_=>(match hide with
     | []=>[]
     | r::_=>[r]))
 | _=>[]
def N1 (o:AOp) (hide:List Nat):List Nat:=match Mp o hide with
 | []=>hide
 | _::_=>hide.tail
def Tw:List (G×List Nat)→List Nat
 | []=>[]
 | (x,hide)::r=>Mp x.o hide++Tw r
def Gx:List (Nat×V×Nat)→St→St
 | [],σ=>σ
 | (r,T,n)::q,σ=>Gx q (Hq r T n σ)
def Aaq (hide:List Nat):St→St
 | []=>[]
 | (k,a)::r=>(k,if hide.contains k || a.roots.any (hide.contains ·) then .top else a)::Aaq hide r
def Nv (ls hide:List Nat) (cs:List (Nat×V×Nat)) (σ:St):St:=Gx (cs.filter fun c => !(hide.filter (ls.contains ·)).contains c.1) (Aaq (hide.filter (ls.contains ·)) σ)
mutual
def Aom (r n:Nat):A→Bool
 | .ref x p => !(Nat.beq x r) || decide (p.length<n)
 | .rfv _ x p => !(Nat.beq x r) || decide (p.length<n)
 | .addr x p _ => !(Nat.beq x r) || decide (p.length<n)
 | .agg as=>Arl r n as
 | .clo _ as=>Arl r n as
 | .top=>true
 | .val _=>true
 | .fad _=>true
def Arl (r n:Nat):List A→Bool
 | []=>true
 | a::q=>Aom r n a&&Arl r n q
end
def Agm (acc:St) (cs:List (Nat×V×Nat)):Bool:=acc.all fun e=>cs.all fun c=>Aom c.1 c.2.2 e.2
def Ati:A→Bool
 | .val _=>true
 | _=>false
def Yn (P:Program) (o:AOp) (s:Nat) (σh:St) (cont:Nat→V→Nat×V×Nat→Prop):Prop:=match o with
 | .call d f as=>(match Lg (Eh σh as) with
   | some _=>False
   | none=>(match Ee σh (Eh σh as) 0 with
     | some (vs,[(k,r,p)],rs)=>(r=s∧rs.contains r=false)∧(match look σh r with
       | .val T => ∃v u T',Tri P f vs (fun res outs=>res=v∧outs[k]? = some u)∧(Ea rs v=true∧Ea rs u=true∧u.node=true∧upd p T u=some T')∧cont d v (r,T',p.length+1)
       | _=>False)
     | _=>False))
 | _=>False
def Gg (P:Program) (ls:List Nat) (σ0:St):List (G×List Nat)→St→List (List Nat)→List (List (Nat×V×Nat))→(St→Prop)→Prop
 | [],acc,KS,CS,K=>(O9 acc KS.flatten=true∧Agm acc CS.flatten=true)∧K (Eg KS.flatten acc++Gx CS.flatten σ0)
 | (x,hide)::r,acc,KS,CS,K=>match x.g with
   | none=>(match Mp x.o hide with
     | []=>Qx P x.o (Eg (hide++KS.flatten) acc++Nv ls hide CS.flatten σ0) fun d a ks=>(Fw d acc σ0=true∧Ack ks x.o (Eg (hide++KS.flatten) acc)=true)∧Gg P ls σ0 r (acc++[(d,a.mapR (Ao d 0))]) (KS++[ks]) (CS++[[]]) K
     | s::_=>Yn P x.o s (Eg (hide++KS.flatten) acc++Nv ls hide.tail CS.flatten σ0) fun d v c=>(Fw d acc σ0=true∧ls.contains s=true∧Ati (look σ0 s)=true)∧Gg P ls σ0 r (acc++[(d,.val v)]) (KS++[[]]) (CS++[[c]]) K)
   | some (s,want)=>(Mp x.o hide=[])∧match look (Eg (hide++KS.flatten) acc++Nv ls hide CS.flatten σ0) s with
     | .val (.bool b)=>(b=want→Qx P x.o (Eg (hide++KS.flatten) acc++Nv ls hide CS.flatten σ0) fun d a ks=>(Fw d acc σ0=true∧Ack ks x.o (Eg (hide++KS.flatten) acc)=true)∧Gg P ls σ0 r (acc++[(d,a.mapR (Ao d 0))]) (KS++[ks]) (CS++[[]]) K) ∧
       (b=(!want)→match x.o.dst with
        | some d=>Fw d acc σ0=true∧Gg P ls σ0 r (acc++[(d,.val (.tup []))]) (KS++[[]]) (CS++[[]]) K
        | none=>False)
     | .val (.tup [])=>match x.o.dst with
       | some d=>Fw d acc σ0=true∧Gg P ls σ0 r (acc++[(d,.val (.tup []))]) (KS++[[]]) (CS++[[]]) K
       | none=>False
     | _=>False
def Ahf:List Oper→List (List Nat)→List (List Nat)
 | [],acc=>acc
 | o::r,acc=>Ahf r (acc++[((o.after.toList.filter (Region.binds .any ·)).flatMap fun e=>e.on::acc.getD e.on []).eraseDups])
def F3 (ops:Array Oper):List (List Nat):=Ahf ops.toList []
def Bg (n m:Nat):Array Bool:=(List.range m).foldl (fun l i=>l.setIfInBounds i true) (Array.replicate n false)
def Re (ops:Array Oper) (T:List (List Nat)):Nat→List (G×List Nat)→Bool
 | _,[]=>true
 | i,(_,hide)::r=>(List.range i).all (fun j=>(T.getD i []).contains j || (match (ops[j]?).bind (·.dst) with | some d=>hide.contains d | none=>false))&&Re ops T (i+1) r
def Aky (ops:Array Oper) (T:List (List Nat)) (pre:List (G×List Nat)):Bool:=(List.range pre.length).all fun i=>match pre[i]? with
 | some (e,_)=>(Aim e.o).all fun s=>(List.range i).all fun k=>((List.range k).all fun j=>(ops[j]?).bind (·.dst) != some s) || (match pre[k]? with | some (_,h)=>h.contains s | none=>true) || (T.getD i []).contains k
 | none=>true
def Agg (T:List (List Nat)) (pre:List (G×List Nat)):Bool:=(List.range pre.length).all fun i=>match pre[i]? with
 | some (e,he)=>(match Mp e.o he with
   | []=>true
   | s::_=>(List.range pre.length).all fun k=>k==i || (T.getD i []).contains k || (T.getD k []).contains i || (match pre[k]? with | some (y,h)=>h.contains s&&(Mp y.o h).isEmpty | none=>true))
 | none=>true
def A2h (ops:Array Oper) (i:Nat):Bool:=match ops[i]? with
 | some o=>(match o.op with | .extract .. => true | _=>false)&&o.guard.isNone&&Region.noSelect ops&&(List.range ops.size).all fun j=>j==i || ((F3 ops).getD i []).contains j || (match ops[j]? with
   | some oj=>oj.after.any (fun e=>Region.binds .any e&&e.on==i) || o.apart ops oj
   | none=>true)
 | none=>false
def Azq (ops:Array Oper) (n:Nat):Bool:=(List.range n).all fun i=>((F3 ops).getD n []).contains i || (A2h ops i&&(match ops[i]? with
 | some o=>o.after.toList.all fun e => !Region.binds .any e || ((F3 ops).getD n []).contains e.on
 | none=>false))
def Aku (P:Program) (N:Nat) (ops:Array Oper) (pre:List (G×List Nat)) (post:List G):Bool:=
 C8 P N ops (pre.map (·.1)++post) ops.toList&&P.follows .mixedOrders&&Re ops (F3 ops) 0 pre&&Aky ops (F3 ops) pre &&
 ops.toList.zipIdx.all (fun (o,i)=>o.after.toList.all fun e => !Region.binds .any e || decide (e.on<i)) &&
 (decide (pre.length=ops.size) || (decide (pre.length<ops.size)&&Azq ops pre.length&&Region.chainB .any ops pre.length)) &&
 Region.seqB .any ops (ops.size-pre.length) pre.length (Bg ops.size pre.length)&&Agg (F3 ops) pre
def A4s:G×List Nat→Bool
 | (⟨none,.mov _ _⟩,_)=>true
 | _=>false
def A4h (ops:Array Oper) (i:Nat):Bool:=match ops[i]? with
 | some o=>(match o.op with | .move _=>true | _=>false)&&o.guard.isNone&&(List.range ops.size).all fun j=>decide (j≤i) || (match ops[j]? with
   | some oj=>oj.after.any (fun e=>Region.binds .any e&&e.on==i) || o.apart ops oj
   | none=>true)
 | none=>false
def At2 (P:Program) (N:Nat) (ops:Array Oper) (n0:Nat) (pre:List (G×List Nat)) (post:List G):Bool:=
 Aku P N ops pre post&&decide (n0≤pre.length)&&Region.noSelect ops&&(pre.take n0).all A4s&&(List.range n0).all (A4h ops)
def Wg (n0:Nat):St:=(List.range n0).map fun i=>(1000000+i,A.top)
def Adf (n0:Nat) (σ:St):Bool:=(List.range n0).all fun i=>Av0 (look σ (1000000+i))
def Aqk (P:Program) (ops:Array Oper) (gv:Nat→Value) (N:Nat) (Q:Exit→Act→World→Prop) (i:Nat) (σh:St) (d:Nat) (r:A) (ks:List Nat) (cs:List (Nat×V×Nat)):Prop:=
 ∀τ a w O vals fp (next:Act→World→Prop),Le σh τ→Ok τ a w O gv N vals fp →
   (∀a' w' O' vals' fp',Ok (Ak d r (N4 ks (Gx cs τ))) a' w' O' gv N vals' fp'→Mv w O (Sof fp) w' O' (Sof fp')→next a' w')→wpOp P ops Q i next a w
theorem Ok.congr {σ τ a w O gv N vals fp} (h:Ok σ a w O gv N vals fp) (e:look σ=look τ):Ok τ a w O gv N vals fp:=⟨by rw [←e];exact h.sim,h.lo,h.hi,h.sz,h.df⟩
theorem Tf {σ τ:St} {w O gv N} {fp:Nat→List Nat} {next:Act→World→Prop} (e:σ=τ)
  (h : ∀a' w' O' vals' fp',Ok τ a' w' O' gv N vals' fp'→Mv w O (Sof fp) w' O' (Sof fp')→next a' w'):Jq w O gv N fp (fun s=>s=σ) next:=by
 intro σ' a' w' O' vals' fp' hk ho hm
 subst hk;subst e
 exact h a' w' O' vals' fp' ho hm
theorem Abs {σ:St} : ∀(cs:List V) (k:Nat),Ee σ (cs.map fun c=>(A.val c,false)) k=some (fzL cs,[],[]):=by
 intro cs
 induction cs with
 | nil=>intro k;rfl
 | cons c r ih=>intro k;simp [Ee,ih,M3,fzL,A.roots]
theorem Wl {σ:St} {bs:List (A×Bool)} {us:List V} (hb : ∀k,Ee σ bs k=some (us,[],[])) : ∀ {as:List (A×Bool)} {k:Nat} {vs ls rs},Ee σ as k=some (vs,ls,rs) →
  Ee σ (as++bs) k=some (vs++us,ls,rs):=by
 intro as
 induction as with
 | nil=>intro k vs ls rs h;simp [Ee] at h;obtain ⟨rfl,rfl,rfl⟩:=h;exact hb k
 | cons e rest ih=>
   intro k vs ls rs h
   obtain ⟨a,io⟩:=e
   simp only [Ee] at h
   split at h
   ·cases h
   ·rename_i vs' ls' rs' h1
    simp only [List.cons_append,Ee,ih h1]
    split at h
    ·rename_i r p u h2
     cases h
     rfl
    ·rename_i h2
     split at h
     ·rename_i v h3
      cases h
      rfl
     ·cases h
theorem Ab2 {σ:St} {xs:List X} {cs:List V}:Lg (Eh σ (xs.map (·,false))++cs.map fun c=>(A.val c,false))=none:=by
 refine Add fun e he=> ?_
 rcases List.mem_append.1 he with h | h
 ·obtain ⟨y,hy,rfl⟩:=List.mem_map.1 h
  obtain ⟨z,hz,rfl⟩:=List.mem_map.1 hy
  rfl
 obtain ⟨y,hy,rfl⟩:=List.mem_map.1 h
 rfl
theorem Ar4 {P:Program} {ops:Array Oper} {gv N Q} {i:Nat} {o:Oper} {x:G} {σh:St} {cont:Nat→A→List Nat→Prop} (hi:ops[i]? = some o) (hf:Aaz P N o x.o=true)
  (h:Qx P x.o σh cont) (hw : ∀τ a w O vals fp,Le σh τ→Ok τ a w O gv N vals fp→Region.wanted o (yielded ops a.tmps)=true) :
  ∃d r ks,cont d r ks∧Aqk P ops gv N Q i σh d r ks []∧o.dst=some d:=by
 by_cases hc : ∃d f as,x.o = .call d f as
 ·obtain ⟨d,f,as,e⟩:=hc
  rw [e] at h hf
  simp only [Qx] at h
  obtain ⟨hio,h⟩:=h
  split at h
  case h_2=>exact h.elim
  rename_i vs rs hargs
  obtain ⟨v,htri,hcont⟩:=h
  have hd:o.dst=some d:=by
   simp only [Aaz,Bool.and_eq_true,beq_iff_eq] at hf;exact hf.1.1
  refine ⟨d,.val v,[],hcont,?_,hd⟩
  intro τ a w O vals fp next hle ho hn
  unfold wpOp
  rw [hi]
  simp only [hw τ a w O vals fp hle ho,if_true]
  left
  refine Adm (K:=fun s=>s=Ak d (.val v) τ) hf ho ?_ (Tf rfl hn)
  simp only [Sj,Ig]
  rw [Ami hio]
  simp only
  rw [Aj6 hle (by simpa using hio) hargs]
  refine ⟨rfl,htri.mono ?_⟩
  rintro r o' ⟨rfl,hok⟩
  exact ⟨hok,rfl⟩
 by_cases hcy : ∃d z as ms,x.o = .cally d z as ms
 ·obtain ⟨d,z,as,ms,e⟩:=hcy
  rw [e] at h hf
  simp only [Qx] at h
  split at h
  case h_2=>exact h.elim
  rename_i f cs hx
  split at h
  case h_2=>exact h.elim
  rename_i vs rs hargs
  obtain ⟨v,htri,hcont⟩:=h
  have hd:o.dst=some d:=by
   simp only [Aaz,Bool.and_eq_true,beq_iff_eq] at hf;exact hf.1.1
  refine ⟨d,.val v,[],hcont,?_,hd⟩
  intro τ a w O vals fp next hle ho hn
  unfold wpOp
  rw [hi]
  simp only [hw τ a w O vals fp hle ho,if_true]
  left
  refine Adm (K:=fun s=>s=Ak d (.val v) τ) hf ho ?_ (Tf rfl hn)
  have hx':Ai τ z = .val (.fclo f cs):=by
   rcases Az hle z with h1 | h1
   ·rw [h1] at hx;cases hx
   ·rw [h1];exact hx
  simp only [Sj,hx',Aqb,Zz,Ig]
  rw [Ab2]
  simp only
  rw [Wl (fun k=>Abs _ k) (Aj6 hle (by simp) hargs),Aab]
  refine ⟨rfl,htri.mono ?_⟩
  rintro r o' ⟨rfl,hok⟩
  exact ⟨hok,rfl⟩
 by_cases hap : ∃d m s y,x.o = .app d m (.t s) y
 ·obtain ⟨d,m,s,y,e⟩:=hap
  rw [e] at h hf
  simp only [Qx] at h
  split at h
  case h_2=>exact h.elim
  rename_i o' m' xs hL
  split at h
  case h_2=>exact h.elim
  rename_i ys hy
  obtain ⟨⟨rfl,rfl,h3,h4⟩,hcont⟩:=h
  have hfo:Be P N o (.app d m' (.t s) y)=true:=hf
  have hd:o.dst=some d:=by
   simp only [Be,Bool.and_eq_true,beq_iff_eq] at hfo;exact hfo.1.1
  refine ⟨d,_,[s],hcont,?_,hd⟩
  intro τ a w O vals fp next hle ho hn
  unfold wpOp
  rw [hi]
  simp only [hw τ a w O vals fp hle ho,if_true]
  left
  have hLt:look τ s = .val (.sl true m' xs):=by
   rcases hle s with h1 | h1
   ·rw [h1] at hL;cases hL
   ·rw [h1,hL]
  have hyt:yS τ m' (Ai τ y)=some (ys,τ):=by
   have hne:Ai σh y ≠ .top:=fun ht=>by rw [ht] at hy;simp [yN] at hy
   rw [(Az hle y).resolve_left hne]
   cases he:Ai σh y with
   | val v=>
     rw [he] at hy
     cases v with
     | sl _ m2 zs=>
       simp only [yN] at hy
       split at hy
       ·rename_i hm;cases hy;simp [yS,hm]
       ·cases hy
     | nilsl=>simp only [yN,Option.some.injEq] at hy;subst hy;simp [yS]
     | _=>simp [yN] at hy
   | ref r p=>
     rw [he] at hy
     simp only [yN] at hy
     split at hy
     case h_2=>cases hy
     rename_i o2 m2 zs hnode
     split at hy
     case isFalse=>cases hy
     rename_i hc
     cases hy
     obtain ⟨_,rfl,rfl,hown⟩:=hc
     simp [yS,Ef hle hnode,hown]
   | _=>rw [he] at hy;simp [yN] at hy
  have hstep:Cm (.app d m' (.t s) y) τ=some (Ak d (.val (.sl true m' (xs++ys))) (Ak s .top τ)):=by
   have hev:Ai τ (.t s) = .ref s []:=by simp [Ai,hLt,V.hasOwn]
   simp [Cm,Aww,hyt,hev,Ie,Fv,hLt,h3,h4]
  exact L6 (K:=fun z=>z=Ak d (.val (.sl true m' (xs++ys))) (Ak s .top τ)) (On hfo ho hstep) rfl (Tf rfl hn)
 by_cases hbs : ∃d m ps,x.o = .bsl d m ps
 ·obtain ⟨d,m,ps,e⟩:=hbs
  rw [e] at h hf
  simp only [Qx] at h
  split at h
  case h_2=>exact h.elim
  rename_i Us ks ht
  obtain ⟨hal,hcont⟩:=h
  have hfo:Be P N o (.bsl d m ps)=true:=hf
  have hd:o.dst=some d:=by
   simp only [Be,Bool.and_eq_true,beq_iff_eq] at hfo;exact hfo.1.1
  refine ⟨d,_,ks,hcont,?_,hd⟩
  intro τ a w O vals fp next hle ho hn
  unfold wpOp
  rw [hi]
  simp only [hw τ a w O vals fp hle ho,if_true]
  left
  have hv:=Ako ht
  have hstep:Cm (.bsl d m ps) τ=some (Ak d (.val (.sl true m Us)) (N4 ks τ)):=by
   have h1:=Ap5 (τ:=τ) ht fun s hs=>by
    obtain ⟨v,hvs⟩:=hv.2 s hs
    rcases hle s with h1 | h1
    ·rw [h1] at hvs;cases hvs
    ·exact h1
   rw [←Tu hle hv.1] at h1
   simp [Cm,Asy,h1,hal]
  exact L6 (K:=fun z=>z=Ak d (.val (.sl true m Us)) (N4 ks τ)) (On hfo ho hstep) rfl (Tf rfl hn)
 by_cases has : ∃d s,x.o = .asg d (.t s)
 ·obtain ⟨d,s,e⟩:=has
  rw [e] at h hf
  simp only [Qx] at h
  split at h
  case h_2=>exact h.elim
  rename_i v hL
  have hfo:Be P N o (.asg d (.t s))=true:=hf
  have hfo2:=hfo
  simp only [Be,Bool.and_eq_true,beq_iff_eq,decide_eq_true_eq] at hfo2
  obtain ⟨⟨hd,hN⟩,hfx⟩:=hfo2
  have hLt : ∀ {τ},Le σh τ→look τ s = .val v:=fun {τ} hle=>by
   rcases hle s with h1 | h1
   ·rw [h1] at hL;cases hL
   ·rw [h1,hL]
  split at h
  ·rename_i hv
   refine ⟨d,_,[s],h,?_,hd⟩
   intro τ a w O vals fp next hle ho hn
   unfold wpOp
   rw [hi]
   simp only [hw τ a w O vals fp hle ho,if_true]
   left
   have hst:Bo P o (Ak d (.val v) (Ak s .top τ)) a w O gv N fp:=by
    split at hfx
    ·exact Avt ho (.inl (by assumption)) hd hN hfx (hLt hle) hv
    ·exact Avt ho (.inr (by assumption)) hd hN hfx (hLt hle) hv
    ·cases hfx
   exact L6 (K:=fun z=>z=Ak d (.val v) (Ak s .top τ)) hst rfl (Tf rfl hn)
  rename_i hv
  refine ⟨d,_,[],h,?_,hd⟩
  intro τ a w O vals fp next hle ho hn
  unfold wpOp
  rw [hi]
  simp only [hw τ a w O vals fp hle ho,if_true]
  left
  have hstep:Cm (.asg d (.t s)) τ=some (Ak d (.val v.up) τ):=by simp [Cm,Aq5,Ai,hLt hle,hv,upA]
  exact L6 (K:=fun z=>z=Ak d (.val v.up) τ) (On hfo ho hstep) rfl (Tf rfl hn)
 generalize x.o=y at *
 have hno : ∀d f as,y ≠ .call d f as:=fun d f as e=>hc ⟨d,f,as,e⟩
 have hny : ∀d z as ms,y ≠ .cally d z as ms:=fun d z as ms e=>hcy ⟨d,z,as,ms,e⟩
 have hna : ∀d m s z,y ≠ .app d m (.t s) z:=fun d m s z e=>hap ⟨d,m,s,z,e⟩
 have hnb : ∀d m ps,y ≠ .bsl d m ps:=fun d m ps e=>hbs ⟨d,m,ps,e⟩
 have hng : ∀d s,y ≠ .asg d (.t s):=fun d s e=>has ⟨d,s,e⟩
 have hq : ∃d r,qR y σh=some (d,r)∧cont d r []:=by
  have h':match qR y σh with | some (d,a)=>cont d a [] | none=>False:=by
   cases y with
   | app d m x2 z=>cases x2 with
     | t s=>exact absurd rfl (hna _ _ _ _)
     | c v=>exact h
   | asg d x2=>cases x2 with
     | t s=>exact absurd rfl (hng _ _)
     | c v=>exact h
   | _=>first | exact h | exact absurd rfl (hno _ _ _) | exact absurd rfl (hnb _ _ _) | exact absurd rfl (hny _ _ _ _)
  split at h'
  ·rename_i d r hqr;exact ⟨d,r,hqr,h'⟩
  ·exact h'.elim
 obtain ⟨d,r,hqr,hcont⟩:=hq
 have hst:=Ap0 hqr
 have hno2:=hny
 have hfo:Be P N o y=true:=by
  cases y<;>first | exact hf | exact absurd rfl (hno _ _ _) | exact absurd rfl (hno2 _ _ _ _)
 have hd:o.dst=some d:=by
  have hds:=hst.2
  cases y<;>simp only [AOp.dst,Option.some.injEq,reduceCtorEq] at hds <;>
   (subst hds;simp only [Be,Bool.and_eq_true,beq_iff_eq] at hfo;first | exact hfo.1.1 | exact hfo.1.1.1 | (simp at hfo))
 refine ⟨d,r,[],hcont,?_,hd⟩
 intro τ a w O vals fp next hle ho hn
 unfold wpOp
 rw [hi]
 simp only [hw τ a w O vals fp hle ho,if_true]
 left
 exact L6 (K:=fun s=>s=Ak d r τ) (On hfo ho (Ap0 (A1u hle hqr)).1) rfl (Tf rfl hn)
theorem Axw {σ:St} : ∀ {as:List (A×Bool)} {k z},Ee σ as k=some z → ∀e∈as,e.1 ≠ .top:=by
 intro as
 induction as with
 | nil=>intro k z _ e he;cases he
 | cons x r ih=>
   intro k z h e he
   obtain ⟨a,io⟩:=x
   simp only [Ee] at h
   split at h
   ·cases h
   ·rename_i vs ls rs hr
    rcases List.mem_cons.1 he with rfl | he
    ·rintro rfl
     have:(if io=true then Sc σ .top else none)=none:=by split<;>rfl
     rw [this] at h
     simp [M3] at h
    ·exact ih hr e he
theorem Arp {σ τ:St} (h:Le σ τ) : ∀ {as:List (A×Bool)} {k z},Ee σ as k=some z→Ee τ as k=some z:=by
 intro as
 induction as with
 | nil=>intro k z hz;exact hz
 | cons x r ih=>
   intro k z hz
   obtain ⟨a,io⟩:=x
   simp only [Ee] at hz ⊢
   split at hz
   ·cases hz
   ·rename_i vs ls rs hr
    rw [ih hr]
    simp only
    cases hl:(if io=true then Sc σ a else none) with
    | some q=>
      rw [hl] at hz
      have hio:io=true:=by cases io<;>simp at hl ⊢
      subst hio
      simp only [if_true] at hl ⊢
      have:Sc τ a=some q:=by
       cases a with
       | ref r' p=>
         simp only [Sc] at hl ⊢
         cases hn:B0 σ r' p with
         | none=>rw [hn] at hl;cases hl
         | some u=>rw [hn] at hl;rw [Ef h hn];exact hl
       | _=>simp [Sc] at hl
      rw [this];exact hz
    | none=>
      rw [hl] at hz
      cases hres:M3 σ a with
      | none=>rw [hres] at hz;cases hz
      | some v=>
        rw [hres] at hz
        have:(if io=true then Sc τ a else none)=none:=by
         split
         ·rename_i hio
          rw [if_pos hio] at hl
          cases a with
          | ref r' p=>
            simp only [Sc] at hl ⊢
            cases hn:B0 σ r' p with
            | none=>simp [M3,hn] at hres
            | some u=>rw [hn] at hl;rw [Ef h hn];exact hl
          | _=>rfl
         ·rfl
        rw [this,Afq h _ _ hres];exact hz
theorem Asz {σ τ:St} (h:Le σ τ) : ∀ {as:List (X×Bool)},(∀e∈Eh σ as,e.1 ≠ .top)→Eh τ as=Eh σ as:=by
 intro as
 induction as with
 | nil=>intro _;rfl
 | cons x r ih=>
   intro hn
   simp only [Eh,List.map_cons] at hn ⊢
   have h1:=ih (fun e he=>hn e (by simp only [Eh] at he;exact List.mem_cons_of_mem _ he))
   simp only [Eh] at h1
   rw [h1]
   rcases Az h x.1 with e | e
   ·exact absurd e (hn (Ai σ x.1,x.2) (by simp))
   ·rw [e]
theorem A00 {P:Program} {ops:Array Oper} {gv N Q} {i:Nat} {o:Oper} {x:G} {s:Nat} {σh:St} {cont:Nat→V→Nat×V×Nat→Prop} (hi:ops[i]? = some o) (hf:Aaz P N o x.o=true) (hg:o.guard=none)
  (h:Yn P x.o s σh cont) : ∃d v c,cont d v c∧Aqk P ops gv N Q i σh d (.val v) [] [c]∧o.dst=some d∧c.1=s:=by
 unfold Yn at h
 split at h
 case h_2=>exact h.elim
 rename_i d f as ho'
 rw [ho'] at hf
 split at h
 ·exact h.elim
 rename_i hgv
 split at h
 case h_2=>exact h.elim
 rename_i vs k r p rs hargs
 obtain ⟨⟨hrs,hroot⟩,h⟩:=h
 split at h
 case h_2=>exact h.elim
 rename_i T hT
 obtain ⟨v,u,T',htri,⟨h1,h2,h3,h4⟩,hcont⟩:=h
 have hd:o.dst=some d:=by
  simp only [Aaz,Bool.and_eq_true,beq_iff_eq] at hf;exact hf.1.1
 refine ⟨d,v,_,hcont,?_,hd,hrs⟩
 intro τ a w O vals fp next hle ho hn
 unfold wpOp
 rw [hi]
 have hw:Region.wanted o (yielded ops a.tmps)=true:=by simp [Region.wanted,hg]
 simp only [hw,if_true]
 left
 refine Adm (K:=fun z=>z=Ak d (.val v) (Hq r T' (p.length+1) τ)) hf ho ?_ (Tf rfl hn)
 simp only [Sj,Ig]
 rw [Asz hle (Axw hargs),hgv]
 simp only
 rw [Arp hle hargs]
 refine ⟨by simp only [Jy,hroot];rfl,htri.mono ?_⟩
 rintro res outs ⟨rfl,hout⟩
 have hTt:look τ r = .val T:=by
  rcases hle r with e | e
  ·rw [e] at hT;cases hT
  ·rw [e,hT]
 simp only [Ff,hout,hTt,h4,Og h3]
 exact ⟨h1,h2,trivial⟩
mutual
theorem Agc (d:Nat):(b:A)→(b.mapR (Ao d 0)).mapR (Ao d 0)=b.mapR (Ao d 0)
 | .top=>rfl
 | .val _=>rfl
 | .ref r p=>by
   simp only [A.mapR,Ao,Nat.zero_le,and_true]
   by_cases h:r=d
   ·simp [h,A.mapR]
   ·simp [h,A.mapR,Ao]
 | .rfv vv r p=>by
   simp only [A.mapR,Ao,Nat.zero_le,and_true]
   by_cases h:r=d
   ·simp [h,A.mapR]
   ·simp [h,A.mapR,Ao]
 | .addr r p c=>by
   simp only [A.mapR,Ao,Nat.zero_le,and_true]
   by_cases h:r=d
   ·simp [h,A.mapR]
   ·simp [h,A.mapR,Ao]
 | .fad _=>rfl
 | .agg as=>by simp only [A.mapR];rw [Aa5 d as]
 | .clo f as=>by simp only [A.mapR];rw [Aa5 d as]
theorem Aa5 (d:Nat):(bs:List A)→Cd (Ao d 0) (Cd (Ao d 0) bs)=Cd (Ao d 0) bs
 | []=>rfl
 | b::r=>by simp only [Cd];rw [Agc d b,Aa5 d r]
end
theorem F5 (A B:St) (s:Nat):look (A++B) s=if Bb s A then look A s else look B s:=by
 induction A with
 | nil=>simp [Bb]
 | cons e r ih=>
   obtain ⟨k,a⟩:=e
   simp only [List.cons_append,look,Bb]
   by_cases h:k=s
   ·subst h;simp
   ·rw [if_neg h,if_neg h,ih];simp [h]
theorem Z5 (hide:List Nat) (A:St) (s:Nat):Bb s (Eg hide A)=(Bb s A && !hide.contains s):=by
 induction A with
 | nil=>simp [Eg,Bb]
 | cons e r ih=>
   obtain ⟨k,a⟩:=e
   simp only [Eg]
   by_cases hk:hide.contains k=true
   ·rw [if_pos hk,ih]
    simp only [Bb]
    by_cases h:k=s
    ·subst h;rw [hk];simp
    ·rw [show (k==s)=false by simp [h],Bool.false_or]
   ·rw [if_neg hk]
    simp only [Bb,ih]
    have hk':hide.contains k=false:=by simpa using hk
    by_cases h:k=s
    ·subst h;rw [hk'];simp
    ·rw [show (k==s)=false by simp [h],Bool.false_or,Bool.false_or]
theorem Abm (hide:List Nat) (A:St) (s:Nat) (hs:hide.contains s=false):look (Eg hide A) s=look A s:=by
 induction A with
 | nil=>rfl
 | cons e r ih=>
   obtain ⟨k,a⟩:=e
   simp only [Eg]
   split
   ·rename_i hk
    simp only [look]
    rw [if_neg (by rintro rfl;rw [hk] at hs;cases hs),ih]
   ·simp only [look,ih]
def kn:St→Bool
 | []=>true
 | (d,_)::r => !Bb d r&&kn r
theorem Rc {H:St} {i s:Nat} {r:A} (h:H[i]? = some (s,r)):Bb s H=true:=by
 induction H generalizing i with
 | nil=>simp at h
 | cons e q ih=>
   obtain ⟨k,a⟩:=e
   cases i with
   | zero=>simp at h;simp [Bb,h.1]
   | succ i=>simp at h;simp [Bb,ih h]
theorem Jz {H:List (Nat×A)} {s:Nat} (h:Bb s H=true) : ∃(i:Nat) (r:A),H[i]? = some (s,r):=by
 induction H with
 | nil=>simp [Bb] at h
 | cons e q ih=>
   obtain ⟨k,a⟩:=e
   simp only [Bb,Bool.or_eq_true,beq_iff_eq] at h
   rcases h with rfl | h
   ·exact ⟨0,a,by simp⟩
   ·obtain ⟨i,r,hi⟩:=ih h;exact ⟨i+1,r,by simpa using hi⟩
theorem Au6 {H:St} (hk:kn H=true) {i s:Nat} {r:A} (h:H[i]? = some (s,r)):look H s=r:=by
 induction H generalizing i with
 | nil=>simp at h
 | cons e q ih=>
   obtain ⟨k,a⟩:=e
   simp only [kn,Bool.and_eq_true,Bool.not_eq_true'] at hk
   cases i with
   | zero=>simp at h;obtain ⟨rfl,rfl⟩:=h;simp [look]
   | succ i=>
     simp at h
     have:=Rc h
     simp only [look]
     rw [if_neg (by rintro rfl;rw [this] at hk;simp at hk)]
     exact ih hk.2 h
theorem A3x {H:St} (hk:kn H=true) {i j s:Nat} {r q:A} (h:H[i]? = some (s,r)) (h':H[j]? = some (s,q)):i=j:=by
 induction H generalizing i j with
 | nil=>simp at h
 | cons e t ih=>
   obtain ⟨k,a⟩:=e
   simp only [kn,Bool.and_eq_true,Bool.not_eq_true'] at hk
   cases i with
   | zero=>
     cases j with
     | zero=>rfl
     | succ j=>simp at h h';obtain ⟨rfl,_⟩:=h;have:=Rc h';rw [this] at hk;simp at hk
   | succ i=>
     cases j with
     | zero=>simp at h h';obtain ⟨rfl,_⟩:=h';have:=Rc h;rw [this] at hk;simp at hk
     | succ j=>simp at h h';rw [ih hk.2 h h']
theorem Avp {H:St} {d:Nat} {a:A} (hk:kn H=true) (hd:Bb d H=false):kn (H++[(d,a)])=true:=by
 induction H with
 | nil=>rfl
 | cons e r ih=>
   obtain ⟨k,b⟩:=e
   simp only [kn,Bool.and_eq_true,Bool.not_eq_true'] at hk
   simp only [Bb,Bool.or_eq_false_iff,beq_eq_false_iff_ne] at hd
   have hkey : ∀A:St,Bb k (A++[(d,a)])=(Bb k A || d==k):=by
    intro A
    induction A with
    | nil=>simp [Bb]
    | cons e r ih=>obtain ⟨j,c⟩:=e;simp [Bb,ih,Bool.or_assoc]
   simp only [List.cons_append,kn,Bool.and_eq_true,Bool.not_eq_true']
   refine ⟨?_,ih hk.2 hd.2⟩
   rw [hkey,hk.1];simp;exact fun e=>hd.1 e.symm
def over (S:Nat→Bool):Nat→St→St
 | _,[]=>[]
 | k,e::r=>if S k then e::over S (k+1) r else over S (k+1) r
theorem Aqo {S:Nat→Bool} {s:Nat} : ∀ {H:St} {k},Bb s H=false→Bb s (over S k H)=false:=by
 intro H
 induction H with
 | nil=>intro k _;rfl
 | cons e r ih=>
   intro k h
   obtain ⟨d,a⟩:=e
   simp only [Bb,Bool.or_eq_false_iff] at h
   simp only [over]
   split
   ·simp [Bb,h.1,ih h.2]
   ·exact ih h.2
theorem Au8 {S:Nat→Bool} : ∀ {H:St} {k i s:Nat} {r:A},kn H=true→H[i]? = some (s,r)→Bb s (over S k H)=S (k+i)∧(S (k+i)=true→look (over S k H) s=r):=by
 intro H
 induction H with
 | nil=>intro k i s r _ h;simp at h
 | cons e q ih=>
   intro k i s r hk h
   obtain ⟨d,a⟩:=e
   simp only [kn,Bool.and_eq_true,Bool.not_eq_true'] at hk
   cases i with
   | zero=>
     simp at h;obtain ⟨rfl,rfl⟩:=h
     simp only [over,Nat.add_zero]
     split
     ·rename_i hS;simp [Bb,look,hS]
     ·rename_i hS
      have hS':S k=false:=by simpa using hS
      rw [Aqo hk.1,hS'];simp
   | succ i=>
     simp at h
     have hne:d≠s:=by rintro rfl;have:=Rc h;rw [this] at hk;simp at hk
     obtain ⟨h1,h2⟩:=ih (k:=k+1) hk.2 h
     rw [show k+1+i=k+(i+1) by omega] at h1 h2
     simp only [over]
     split
     ·simp only [Bb,look,if_neg hne]
      exact ⟨by simp [hne,h1],h2⟩
     ·exact ⟨h1,h2⟩
structure Heads (n0:Nat) (P:Program) (ops:Array Oper) (gv:Nat→Value) (N:Nat) (Q:Exit→Act→World→Prop) (ls:List Nat) (σ0:St) (pre:List (G×List Nat)) (H:St) (KS:List (List Nat)) (CS:List (List (Nat×V×Nat))):Prop where
 len:H.length≤pre.length
 klen:KS.length=H.length
 clen:CS.length=H.length
 cks : ∀(i:Nat) (ks:List Nat) (cs:List (Nat×V×Nat)),KS[i]? = some ks→CS[i]? = some cs→cs=[]∨ks=[]
 cval : ∀c∈CS.flatten,∃U,look σ0 c.1 = .val U
 cin : ∀(i:Nat) (cs:List (Nat×V×Nat)) (c:Nat×V×Nat) (x:G) (hide:List Nat),CS[i]? = some cs→c∈cs→pre[i]? = some (x,hide)→ls.contains c.1=true ∧ ∃q,Mp x.o hide=c.1::q
 dumc : ∀(j:Nat) (cs:List (Nat×V×Nat)),j<n0→CS[j]? = some cs→cs=[]
 kn:kn H=true
 top : ∀e∈H,look σ0 e.1 = .top
 idem : ∀e∈H,e.2.mapR (Ao e.1 0)=e.2
 dum : ∀(i d:Nat) (r:A),i<n0→(H:List (Nat×A))[i]? = some (d,r)→r = .top
 dst : ∀(i d:Nat) (r:A),n0≤i→(H:List (Nat×A))[i]? = some (d,r)→(ops[i]?).bind (fun o:Oper=>o.dst)=some d
 kin : ∀(i:Nat) (ks:List Nat) (x:G) (hide:List Nat),KS[i]? = some ks→pre[i]? = some (x,hide)→Ack ks x.o (Eg (hide++(KS.take i).flatten) (H.take i))=true
 ok : ∀(i d:Nat) (r:A) (ks:List Nat) (cs:List (Nat×V×Nat)) (x:G) (hide:List Nat),n0≤i→(H:List (Nat×A))[i]? = some (d,r)→KS[i]? = some ks→CS[i]? = some cs→pre[i]? = some (x,hide)→Aqk P ops gv N Q i (Eg (hide++(KS.take i).flatten) (H.take i)++Nv ls (N1 x.o hide) (CS.take i).flatten σ0) d r ks cs
theorem Aw6 {n0:Nat} {P:Program} {ops:Array Oper} {gv N Q} {ls:List Nat} {σ0:St} {all:List (G×List Nat)} {os:List Oper} (hfit:C8 P N ops (all.map (·.1)) os=true) (hos : ∀j,j<os.length→os[j]? = ops[j]?) : ∀(pre:List (G×List Nat)) (acc:St) (KS:List (List Nat)) (CS:List (List (Nat×V×Nat))) (K:St→Prop),
  Gg P ls σ0 pre acc KS CS K→acc.length+pre.length=all.length→(∀j,pre[j]? = all[acc.length+j]?)→n0≤acc.length→Heads n0 P ops gv N Q ls σ0 all acc KS CS →
  ∃H KS CS,Heads n0 P ops gv N Q ls σ0 all H KS CS∧H.length=all.length∧(O9 H KS.flatten=true∧Agm H CS.flatten=true)∧K (Eg KS.flatten H++Gx CS.flatten σ0):=by
 intro pre
 induction pre with
 | nil=>intro acc KS CS K h hl _ _ hh;exact ⟨acc,KS,CS,hh,by simpa using hl,h.1,h.2⟩
 | cons p r ih=>
   intro acc KS CS K h hl hpre hn0 hh
   obtain ⟨x,hide⟩:=p
   have hx:all[acc.length]? = some (x,hide):=by simpa using (hpre 0).symm
   have hlen:acc.length<all.length:=(List.getElem?_eq_some_iff.1 hx).1
   have getfit : ∀ {gs:List G} {os:List Oper} {i:Nat} {g:G},C8 P N ops gs os=true→gs[i]? = some g → ∃o,os[i]? = some o∧Pu P N ops g o=true:=by
    intro gs
    induction gs with
    | nil=>intro os i g _ hi;simp at hi
    | cons g' gs ih'=>
      intro os i g hf hi
      cases os with
      | nil=>simp [C8] at hf
      | cons o os=>
        simp only [C8,Bool.and_eq_true] at hf
        cases i with
        | zero=>simp at hi;subst hi;exact ⟨o,by simp,hf.1⟩
        | succ i=>simp at hi;obtain ⟨o',h1,h2⟩:=ih' hf.2 hi;exact ⟨o',by simpa using h1,h2⟩
   obtain ⟨o,ho,hfg⟩:=getfit (i:=acc.length) (g:=x) hfit (by rw [List.getElem?_map,hx];rfl)
   have hoi:ops[acc.length]? = some o:=by rw [←hos _ (List.getElem?_eq_some_iff.1 ho).1];exact ho
   simp only [Pu,Bool.and_eq_true,beq_iff_eq] at hfg
   obtain ⟨⟨⟨hfo,hdst⟩,hdN⟩,hg⟩:=hfg
   have hkl:=hh.klen
   have hcl:=hh.clen
   have more : ∀d a' ks cs,Fw d acc σ0=true→Ack ks x.o (Eg (hide++KS.flatten) acc)=true→(cs=[]∨ks=[])→(∀c∈cs,(∃U,look σ0 c.1 = .val U)∧ls.contains c.1=true ∧ ∃q,Mp x.o hide=c.1::q)→o.dst=some d →
     Aqk P ops gv N Q acc.length (Eg (hide++KS.flatten) acc++Nv ls (N1 x.o hide) CS.flatten σ0) d a' ks cs→Gg P ls σ0 r (acc++[(d,a'.mapR (Ao d 0))]) (KS++[ks]) (CS++[cs]) K →
     ∃H KS CS,Heads n0 P ops gv N Q ls σ0 all H KS CS∧H.length=all.length∧(O9 H KS.flatten=true∧Agm H CS.flatten=true)∧K (Eg KS.flatten H++Gx CS.flatten σ0):=by
    intro d a' ks cs hfr hkill hck hcs hod hok hrest
    simp only [Fw,Bool.and_eq_true,Bool.not_eq_true'] at hfr
    have htop:look σ0 d = .top:=by
     have:=hfr.2;unfold Av0 at this;split at this
     ·assumption
     ·cases this
    refine ih (acc++[(d,a'.mapR (Ao d 0))]) (KS++[ks]) (CS++[cs]) K hrest (by simp at hl ⊢;omega) (fun j=>by
     have:=hpre (j+1)
     simp at this ⊢
     rw [this];congr 1;omega) (by simp;omega) ⟨by simp;omega,by simp [hkl],by simp [hcl],?_,?_,?_,(fun j cs' hj hcj=>by rw [List.getElem?_append_left (by omega)] at hcj;exact hh.dumc j cs' hj hcj),Avp hh.kn hfr.1,?_,?_,?_,?_,?_,?_⟩
    ·intro i ks' cs' hi hi'
     rcases Nat.lt_or_ge i acc.length with hlt | hge
     ·rw [List.getElem?_append_left (by omega)] at hi hi'
      exact hh.cks i ks' cs' hi hi'
     ·have h1:=(List.getElem?_eq_some_iff.1 hi).1
      simp at h1
      have:i=acc.length:=by omega
      subst this
      rw [←hkl] at hi
      rw [←hcl] at hi'
      simp at hi hi'
      subst hi;subst hi'
      exact hck
    ·intro c hc
     simp only [List.flatten_append,List.flatten_cons,List.flatten_nil,List.append_nil,List.mem_append] at hc
     rcases hc with hc | hc
     ·exact hh.cval c hc
     ·exact (hcs c hc).1
    ·intro i cs' c y hide' hi hc hp
     rcases Nat.lt_or_ge i acc.length with hlt | hge
     ·rw [List.getElem?_append_left (by omega)] at hi
      exact hh.cin i cs' c y hide' hi hc hp
     ·have h1:=(List.getElem?_eq_some_iff.1 hi).1
      simp at h1
      have:i=acc.length:=by omega
      subst this
      rw [←hcl] at hi
      simp at hi
      subst hi
      rw [hx] at hp
      simp at hp
      obtain ⟨rfl,rfl⟩:=hp
      exact (hcs c hc).2
    ·intro e he
     rcases List.mem_append.1 he with he | he
     ·exact hh.top e he
     ·simp at he;subst he;exact htop
    ·intro e he
     rcases List.mem_append.1 he with he | he
     ·exact hh.idem e he
     ·simp at he;subst he;exact Agc _ _
    ·intro i d' r' hi0 hi
     rw [List.getElem?_append_left (by omega)] at hi
     exact hh.dum i d' r' hi0 hi
    ·intro i d' r' hi0 hi
     rcases Nat.lt_or_ge i acc.length with hlt | hge
     ·rw [List.getElem?_append_left hlt] at hi;exact hh.dst i d' r' hi0 hi
     ·have hi':=(List.getElem?_eq_some_iff.1 hi).1
      simp at hi'
      have:i=acc.length:=by omega
      subst this
      simp at hi
      rw [hoi];simp [hod,hi.1]
    ·intro i ks' y hide' hi hp
     rcases Nat.lt_or_ge i acc.length with hlt | hge
     ·rw [List.getElem?_append_left (by omega)] at hi
      rw [List.take_append_of_le_length (by omega),List.take_append_of_le_length (by omega)]
      exact hh.kin i ks' y hide' hi hp
     ·have hi':=(List.getElem?_eq_some_iff.1 hi).1
      simp at hi'
      have:i=acc.length:=by omega
      subst this
      rw [←hkl] at hi
      simp at hi
      subst hi
      rw [hx] at hp
      simp at hp
      obtain ⟨rfl,rfl⟩:=hp
      rw [List.take_append_of_le_length (Nat.le_refl _),List.take_length,List.take_append_of_le_length (by omega),←hkl,List.take_length]
      exact hkill
    ·intro i d' r' ks' cs' y hide' hi0 hi hk hk2 hp
     rcases Nat.lt_or_ge i acc.length with hlt | hge
     ·rw [List.getElem?_append_left hlt] at hi
      rw [List.getElem?_append_left (by omega)] at hk hk2
      rw [List.take_append_of_le_length (by omega),List.take_append_of_le_length (by omega),List.take_append_of_le_length (by omega)]
      exact hh.ok i d' r' ks' cs' y hide' hi0 hi hk hk2 hp
     ·have hi':=(List.getElem?_eq_some_iff.1 hi).1
      simp at hi'
      have:i=acc.length:=by omega
      subst this
      simp at hi
      obtain ⟨rfl,rfl⟩:=hi
      rw [←hkl] at hk
      simp at hk
      subst hk
      rw [←hcl] at hk2
      simp at hk2
      subst hk2
      rw [hx] at hp
      simp at hp
      obtain ⟨rfl,rfl⟩:=hp
      have ek:(KS++[ks]).take acc.length=KS:=by rw [←hkl];simp
      have ec:(CS++[cs]).take acc.length=CS:=by rw [←hcl];simp
      rw [List.take_append_of_le_length (Nat.le_refl _),List.take_length,ek,ec]
      intro τ a w O vals fp next hle hτ hn
      refine hok τ a w O vals fp next hle hτ ?_
      intro a1 w1 O1 vals1 fp1 h1 h2
      have:Ak d (a'.mapR (Ao d 0)) (N4 ks (Gx cs τ))=Ak d a' (N4 ks (Gx cs τ)):=by
       simp only [Ak,Agc]
      rw [this] at hn
      exact hn a1 w1 O1 vals1 fp1 h1 h2
   simp only [Gg] at h
   split at h
   ·rename_i hxg
    rw [hxg] at hg
    have hog:o.guard=none:=by
     cases hog:o.guard with
     | none=>rfl
     | some q=>rw [hog] at hg;simp at hg
    split at h
    ·rename_i hlo
     have hho:N1 x.o hide=hide:=by unfold N1;rw [hlo]
     obtain ⟨d,a',ks,⟨⟨hfr,hkill⟩,hrest⟩,hok,hod⟩:=Ar4 (Q:=Q) (gv:=gv) hoi hfo h (fun _ _ _ _ _ _ _ _=>by simp [Region.wanted,hog])
     exact more d a' ks [] hfr hkill (.inl rfl) (by simp) hod (by rw [hho];exact hok) hrest
    ·rename_i s q hlo
     have hho:N1 x.o hide=hide.tail:=by unfold N1;rw [hlo]
     obtain ⟨d,v,c,⟨⟨hfr,hls,hva⟩,hrest⟩,hok,hod,hcs⟩:=A00 (Q:=Q) (gv:=gv) hoi hfo hog h
     refine more d (.val v) [] [c] hfr rfl (.inr rfl) ?_ hod (by rw [hho];exact hok) hrest
     intro c' hc'
     simp at hc'
     subst hc'
     rw [hcs]
     refine ⟨?_,hls,q,hlo⟩
     unfold Ati at hva
     split at hva
     ·exact ⟨_,by assumption⟩
     ·cases hva
   ·rename_i s want hxg
    obtain ⟨hlo,h⟩:=h
    have hho:N1 x.o hide=hide:=by unfold N1;rw [hlo]
    rw [hxg] at hg
    cases hog:o.guard with
    | none=>rw [hog] at hg;simp at hg
    | some q=>
      obtain ⟨j,want'⟩:=q
      rw [hog] at hg
      simp only [Bool.and_eq_true,beq_iff_eq,decide_eq_true_eq] at hg
      obtain ⟨⟨rfl,hsN⟩,hj⟩:=hg
      split at hj
      case h_2=>cases hj
      rename_i s2 hs2
      have:s2=s:=by simpa using hj
      subst this
      have skip:(match x.o.dst with
        | some d=>Fw d acc σ0=true∧Gg P ls σ0 r (acc++[(d,.val (.tup []))]) (KS++[[]]) (CS++[[]]) K
        | none=>False)→(∀τ a w O vals fp,Le (Eg (hide++KS.flatten) acc++Nv ls hide CS.flatten σ0) τ→Ok τ a w O gv N vals fp→Region.wanted o (yielded ops a.tmps)=false) →
        ∃H KS CS,Heads n0 P ops gv N Q ls σ0 all H KS CS∧H.length=all.length∧(O9 H KS.flatten=true∧Agm H CS.flatten=true)∧K (Eg KS.flatten H++Gx CS.flatten σ0):=by
       intro h2 hw
       split at h2
       case h_2=>exact h2.elim
       rename_i d hd
       have hod:o.dst=some d:=by rw [hdst,hd]
       refine more d (.val (.tup [])) [] [] h2.1 rfl (.inl rfl) (by simp) hod ?_ h2.2
       rw [hho]
       intro τ a w O vals fp next hle hτ hn
       unfold wpOp
       rw [hoi]
       simp only [hw τ a w O vals fp hle hτ]
       obtain ⟨vals',fp',k1,k2⟩:=Aox (ao:=x.o) hτ hdst (by intro d' hd';rw [hd'] at hdN;simpa using hdN)
       have:Ks x.o τ=Ak d (.val (.tup [])) τ:=by simp [Ks,hd]
       rw [this] at k1
       exact hn _ _ _ _ _ k1 ((Mv.refl _ _ _).shrink k2)
      split at h
      case h_3=>exact h.elim
      case h_2=>
       rename_i hb
       refine skip h fun τ a w O vals fp hle hτ=> ?_
       have:look τ s2 = .val (.tup []):=by
        rcases hle s2 with h1 | h1
        ·rw [h1] at hb;cases hb
        ·rw [h1];exact hb
       simp [Region.wanted,hog,Tm hτ hs2 hsN this]
      rename_i b hb
      have hyield : ∀τ a w O vals fp,Le (Eg (hide++KS.flatten) acc++Nv ls hide CS.flatten σ0) τ→Ok τ a w O gv N vals fp→yielded ops a.tmps j=some b:=by
       intro τ a w O vals fp hle hτ
       refine V9 hτ hs2 hsN ?_
       rcases hle s2 with h1 | h1
       ·rw [h1] at hb;cases hb
       ·rw [h1];exact hb
      by_cases hbw:b=want
      ·obtain ⟨d,a',ks,⟨⟨hfr,hkill⟩,hrest⟩,hok,hod⟩:=Ar4 (Q:=Q) (gv:=gv) hoi hfo (h.1 hbw) (fun τ a w O vals fp hle hτ=>by
        simp [Region.wanted,hog,hyield τ a w O vals fp hle hτ,hbw])
       exact more d a' ks [] hfr hkill (.inl rfl) (by simp) hod (by rw [hho];exact hok) hrest
      ·have hbn:b=(!want):=by cases b<;>cases want<;>simp_all
       exact skip (h.2 hbn) fun τ a w O vals fp hle hτ=>by simp [Region.wanted,hog,hyield τ a w O vals fp hle hτ,hbw]
end Go.Proofs.Ytmmcfdfdacpjgaa.Ax
namespace Go.Proofs.Ytmmcfdfdacpjgaa.Ax
open Go
theorem RelL.noref {w O L vals d} (hd:L d = .top) : ∀ {as vs},RelL w O L vals as vs→Cd (Ao d 0) as=as:=by
 intro as vs h
 have hne : ∀ {r:Nat} {V:Ax.V},L r = .val V→Ao d 0 r=fun _=>some r:=by
  intro r V hr
  funext l
  have:r≠d:=by rintro rfl;rw [hd] at hr;cases hr
  simp [Ao,this]
 induction h with
 | nil=>rfl
 | top _ ih=>simp [Cd,A.mapR,ih]
 | val _ _ _ ih=>simp [Cd,A.mapR,ih]
 | ref hL _ _ _ ih=>simp [Cd,A.mapR,ih,hne hL]
 | rfv hL _ _ _ ih=>simp [Cd,A.mapR,ih,hne hL]
 | addr hL _ _ _ _ _ ih=>simp [Cd,A.mapR,ih,hne hL]
 | fad _ _ _ _ ih=>simp [Cd,A.mapR,ih]
 | agg _ _ ih1 ih2=>simp [Cd,A.mapR,ih1,ih2]
 | clo _ _ ih1 ih2=>simp [Cd,A.mapR,ih1,ih2]
theorem Sim.noref {w O L vals fp d} (h:Sim w O L vals fp) (hd:L d = .top) (s:Nat):(L s).mapR (Ao d 0)=L s:=by
 cases hs:L s with
 | val v=>rfl
 | _=>
   have:=RelL.noref hd (h.rel s (by intro V hV;rw [hs] at hV;cases hV))
   rw [hs] at this
   simpa [Cd] using this
def kd (listed:Array Bool) (KS:List (List Nat)) (s:Nat):Bool:=(List.range KS.length).any fun i=>listed.getD i false&&(KS.getD i []).contains s
def Akr (listed:Array Bool) (KS:List (List Nat)) (H:St) (i:Nat):Bool:=listed.getD i false&&(match (H:List (Nat×A))[i]? with | some (s,_) => !kd listed KS s | none=>true)
abbrev mid (listed:Array Bool) (KS:List (List Nat)) (H σ0:St):St:=over (Akr listed KS H) 0 H++σ0
theorem Ajt {listed:Array Bool} {KS:List (List Nat)} {H:St} {i s:Nat} {r:A} (h:(H:List (Nat×A))[i]? = some (s,r)):Akr listed KS H i=(listed.getD i false && !kd listed KS s):=by
 unfold Akr;rw [h]
theorem Ade {listed:Array Bool} {KS:List (List Nat)} {s:Nat}:kd listed KS s=true ↔ ∃i ks,KS[i]? = some ks∧listed.getD i false=true∧s∈ks:=by
 unfold kd
 rw [List.any_eq_true]
 constructor
 ·rintro ⟨i,hi,h⟩
  have hi':=List.mem_range.1 hi
  simp only [Bool.and_eq_true] at h
  refine ⟨i,KS[i],by simp [hi'],h.1,?_⟩
  have:=h.2
  rw [List.getD_eq_getElem?_getD,List.getElem?_eq_getElem hi'] at this
  simpa using this
 rintro ⟨i,ks,hk,hl,hs⟩
 have hi:=(List.getElem?_eq_some_iff.1 hk).1
 refine ⟨i,List.mem_range.2 hi,?_⟩
 rw [List.getD_eq_getElem?_getD,hk]
 simp [hl,hs]
theorem Ayn {listed:Array Bool} {KS:List (List Nat)} {i s:Nat} {ks:List Nat} (hk:KS[i]? = some ks) (hsz:i<listed.size):kd (listed.setIfInBounds i true) KS s=(kd listed KS s || ks.contains s):=by
 rw [Bool.eq_iff_iff,Bool.or_eq_true,Ade,Ade]
 constructor
 ·rintro ⟨j,ks',hj,hl,hs⟩
  by_cases hij:i=j
  ·subst hij
   rw [hk] at hj;cases hj
   exact .inr (by simpa using hs)
  rw [getD_set_ne false hij] at hl
  exact .inl ⟨j,ks',hj,hl,hs⟩
 rintro (⟨j,ks',hj,hl,hs⟩ | hs)
 ·refine ⟨j,ks',hj,?_,hs⟩
  by_cases hij:i=j
  ·subst hij;simp [hsz]
  rw [getD_set_ne false hij];exact hl
 exact ⟨i,ks,hk,by simp [hsz],by simpa using hs⟩
mutual
theorem Agv {t:Nat}:(a:A)→(∀r∈a.roots,r≠t)→a.mapR (Ao t 0)=a
 | .top,_=>rfl
 | .val _,_=>rfl
 | .ref r p,h=>by
   have:r≠t:=h r (by simp [A.roots])
   simp [A.mapR,Ao,this]
 | .rfv vv r p,h=>by
   have:r≠t:=h r (by simp [A.roots])
   simp [A.mapR,Ao,this]
 | .addr r p c,h=>by
   have:r≠t:=h r (by simp [A.roots])
   simp [A.mapR,Ao,this]
 | .fad _,_=>rfl
 | .agg as,h=>by simp only [A.mapR];rw [We as (by simpa [A.roots] using h)]
 | .clo f as,h=>by simp only [A.mapR];rw [We as (by simpa [A.roots] using h)]
theorem We {t:Nat}:(as:List A)→(∀r∈E2 as,r≠t)→Cd (Ao t 0) as=as
 | [],_=>rfl
 | a::r,h=>by
   simp only [Cd]
   rw [Agv a fun x hx=>h x (by simp [E2,hx]),We r fun x hx=>h x (by simp [E2,hx])]
end
mutual
theorem Ac8 {t n:Nat}:(a:A)→(∀r∈a.roots,r≠t)→a.mapR (Ao t n)=a
 | .top,_=>rfl
 | .val _,_=>rfl
 | .ref r p,h=>by
   have:r≠t:=h r (by simp [A.roots])
   simp [A.mapR,Ao,this]
 | .rfv vv r p,h=>by
   have:r≠t:=h r (by simp [A.roots])
   simp [A.mapR,Ao,this]
 | .addr r p c,h=>by
   have:r≠t:=h r (by simp [A.roots])
   simp [A.mapR,Ao,this]
 | .fad _,_=>rfl
 | .agg as,h=>by simp only [A.mapR];rw [Um as (by simpa [A.roots] using h)]
 | .clo f as,h=>by simp only [A.mapR];rw [Um as (by simpa [A.roots] using h)]
theorem Um {t n:Nat}:(as:List A)→(∀r∈E2 as,r≠t)→Cd (Ao t n) as=as
 | [],_=>rfl
 | a::r,h=>by
   simp only [Cd]
   rw [Ac8 a fun x hx=>h x (by simp [E2,hx]),Um r fun x hx=>h x (by simp [E2,hx])]
end
theorem Axl : ∀ {ks:List Nat} {σ:St},(∀t∈ks,∀s,(look σ s).mapR (Ao t 0)=look σ s) → ∀s,look (N4 ks σ) s=if ks.contains s then .top else look σ s:=by
 intro ks
 induction ks with
 | nil=>intro σ _ s;simp [N4]
 | cons t r ih=>
   intro σ h s
   have h1 : ∀s,look (Ak t .top σ) s=if s=t then .top else look σ s:=by
    intro s
    rw [D1]
    simp only [Gw]
    split
    ·rfl
    ·exact h t (by simp) s
   simp only [N4]
   rw [ih (σ:=Ak t .top σ) (fun t' ht' s'=>by
    rw [h1]
    split
    ·rfl
    ·exact h t' (by simp [ht']) s'),h1]
   by_cases hst:s=t
   ·subst hst;simp
   ·rw [if_neg hst]
    have:(t::r).contains s=r.contains s:=by simp [hst]
    rw [this]
def E7:List (Nat×V×Nat)→(Nat→A)→Nat→A
 | [],L=>L
 | (r,T,n)::q,L=>E7 q fun s=>if s=r then .val T else (L s).mapR (Ao r n)
def bLL (S:Nat→Bool):Nat→List (List (Nat×V×Nat))→(Nat→A)→Nat→A
 | _,[],L=>L
 | k,c::r,L=>bLL S (k+1) r (if S k then E7 c L else L)
def Au5 (S:Nat→Bool):Nat→List (List (Nat×V×Nat))→St→St
 | _,[],σ=>σ
 | k,c::r,σ=>Au5 S (k+1) r (if S k then Gx c σ else σ)
theorem Kc : ∀ {cs:List (Nat×V×Nat)} {σ:St},(∀c∈cs,∃U,look σ c.1 = .val U)→look (Gx cs σ)=E7 cs (look σ):=by
 intro cs
 induction cs with
 | nil=>intro σ _;rfl
 | cons c q ih=>
   intro σ h
   obtain ⟨r,T,n⟩:=c
   obtain ⟨U,hU⟩:=h (r,T,n) (by simp)
   simp only [Gx,E7]
   rw [ih,J9 hU]
   intro c hc
   rw [J9 hU]
   obtain ⟨U2,hU2⟩:=h c (by simp [hc])
   by_cases e:c.1=r
   ·exact ⟨T,by simp [e]⟩
   ·exact ⟨U2,by simp only;rw [if_neg e,hU2];rfl⟩
theorem Am8 {s:Nat} : ∀ {cs:List (Nat×V×Nat)} {L:Nat→A} {U},L s = .val U → ∃U',E7 cs L s = .val U':=by
 intro cs
 induction cs with
 | nil=>intro L U h;exact ⟨U,h⟩
 | cons c q ih=>
   intro L U h
   obtain ⟨r,T,n⟩:=c
   simp only [E7]
   by_cases e:s=r
   ·exact ih (U:=T) (by simp [e])
   ·exact ih (U:=U) (by rw [if_neg e,h];rfl)
mutual
theorem Asl {r n:Nat}:(a:A)→Aom r n a=true→a.mapR (Ao r n)=a
 | .top,_=>rfl
 | .val _,_=>rfl
 | .ref x p,h=>by
   simp only [Aom,Bool.or_eq_true,Bool.not_eq_true',decide_eq_true_eq] at h
   have:¬(x=r∧n≤p.length):=by
    rintro ⟨rfl,h2⟩
    rcases h with h | h
    ·rw [Nat.beq_refl] at h;cases h
    ·omega
   simp [A.mapR,Ao,this]
 | .rfv vv x p,h=>by
   simp only [Aom,Bool.or_eq_true,Bool.not_eq_true',decide_eq_true_eq] at h
   have:¬(x=r∧n≤p.length):=by
    rintro ⟨rfl,h2⟩
    rcases h with h | h
    ·rw [Nat.beq_refl] at h;cases h
    ·omega
   simp [A.mapR,Ao,this]
 | .addr x p c,h=>by
   simp only [Aom,Bool.or_eq_true,Bool.not_eq_true',decide_eq_true_eq] at h
   have:¬(x=r∧n≤p.length):=by
    rintro ⟨rfl,h2⟩
    rcases h with h | h
    ·rw [Nat.beq_refl] at h;cases h
    ·omega
   simp [A.mapR,Ao,this]
 | .fad _,_=>rfl
 | .agg as,h=>by simp only [A.mapR];rw [Afd as (by simpa only [Aom] using h)]
 | .clo f as,h=>by simp only [A.mapR];rw [Afd as (by simpa only [Aom] using h)]
theorem Afd {r n:Nat}:(as:List A)→Arl r n as=true→Cd (Ao r n) as=as
 | [],_=>rfl
 | a::q,h=>by
   simp only [Arl,Bool.and_eq_true] at h
   simp only [Cd]
   rw [Asl a h.1,Afd q h.2]
end
theorem Axc {s:Nat} : ∀ {cs:List (Nat×V×Nat)} {L:Nat→A},(∀c∈cs,c.1≠s∧Aom c.1 c.2.2 (L s)=true)→E7 cs L s=L s:=by
 intro cs
 induction cs with
 | nil=>intro L _;rfl
 | cons c q ih=>
   intro L h
   obtain ⟨r,T,n⟩:=c
   have h1:=h (r,T,n) (by simp)
   have e1:(fun s=>if s=r then A.val T else (L s).mapR (Ao r n)) s=L s:=by
    simp only
    rw [if_neg (fun e=>h1.1 e.symm),Asl _ h1.2]
   simp only [E7]
   rw [ih]
   ·exact e1
   ·intro c hc
    have e2:(if s=r then A.val T else (L s).mapR (Ao r n))=L s:=e1
    rw [e2]
    exact h c (by simp [hc])
theorem Acq {s:Nat} : ∀ {cs:List (Nat×V×Nat)} {L:Nat→A},(∀c∈cs,c.1≠s∧c.1∉(L s).roots)→E7 cs L s=L s:=by
 intro cs
 induction cs with
 | nil=>intro L _;rfl
 | cons c q ih=>
   intro L h
   obtain ⟨r,T,n⟩:=c
   have h1:=h (r,T,n) (by simp)
   have hk : ∀(a:A),r∉a.roots→a.mapR (Ao r n)=a:=by
    have key : ∀p,Ao r n p=Ao r n p:=fun _=>rfl
    intro a ha
    exact Ac8 a (fun x hx e=>ha (e▸hx))
   have e1:(fun s=>if s=r then A.val T else (L s).mapR (Ao r n)) s=L s:=by
    simp only
    rw [if_neg (fun e=>h1.1 e.symm),hk _ h1.2]
   simp only [E7]
   rw [ih]
   ·exact e1
   ·intro c hc
    have e2:(if s=r then A.val T else (L s).mapR (Ao r n))=L s:=e1
    rw [e2]
    exact h c (by simp [hc])
theorem Az8 {s:Nat} : ∀ {cs:List (Nat×V×Nat)} {L M:Nat→A},L s=M s→E7 cs L s=E7 cs M s:=by
 intro cs
 induction cs with
 | nil=>intro L M h;exact h
 | cons c q ih=>
   intro L M h
   obtain ⟨r,T,n⟩:=c
   simp only [E7]
   exact ih (by simp only [h])
theorem Ad5 (a b:List (Nat×V×Nat)) (L:Nat→A):E7 (a++b) L=E7 b (E7 a L):=by
 induction a generalizing L with
 | nil=>rfl
 | cons c q ih=>obtain ⟨r,T,n⟩:=c;simp only [List.cons_append,E7];exact ih _
mutual
theorem Aj4 {t r n:Nat}:(a:A)→a.mapR (Ao t 0)=a→(a.mapR (Ao r n)).mapR (Ao t 0)=a.mapR (Ao r n)
 | .top,_=>rfl
 | .val _,_=>rfl
 | .ref x p,h=>by
   by_cases e:x=r∧n≤p.length
   ·simp [A.mapR,Ao,e]
   ·have:A.mapR (Ao r n) (.ref x p) = .ref x p:=by simp [A.mapR,Ao,e]
    rw [this];exact h
 | .rfv vv x p,h=>by
   by_cases e:x=r∧n≤p.length
   ·simp [A.mapR,Ao,e]
   ·have:A.mapR (Ao r n) (.rfv vv x p) = .rfv vv x p:=by simp [A.mapR,Ao,e]
    rw [this];exact h
 | .addr x p c,h=>by
   by_cases e:x=r∧n≤p.length
   ·simp [A.mapR,Ao,e]
   ·have:A.mapR (Ao r n) (.addr x p c) = .addr x p c:=by simp [A.mapR,Ao,e]
    rw [this];exact h
 | .fad _,_=>rfl
 | .agg as,h=>by
   simp only [A.mapR,A.agg.injEq] at h ⊢
   exact Z1 as h
 | .clo f as,h=>by
   simp only [A.mapR,A.clo.injEq,true_and] at h ⊢
   exact Z1 as h
theorem Z1 {t r n:Nat}:(as:List A)→Cd (Ao t 0) as=as→Cd (Ao t 0) (Cd (Ao r n) as)=Cd (Ao r n) as
 | [],_=>rfl
 | a::q,h=>by
   simp only [Cd,List.cons.injEq] at h ⊢
   exact ⟨Aj4 a h.1,Z1 q h.2⟩
end
mutual
theorem Ak3 {x r n:Nat}:(a:A)→x∈(a.mapR (Ao r n)).roots→x∈a.roots
 | .top,h=>h
 | .val _,h=>h
 | .ref y p,h=>by
   by_cases e:y=r∧n≤p.length
   ·simp [A.mapR,Ao,e,A.roots] at h
   ·have:A.mapR (Ao r n) (.ref y p) = .ref y p:=by simp [A.mapR,Ao,e]
    rw [this] at h;exact h
 | .rfv vv y p,h=>by
   by_cases e:y=r∧n≤p.length
   ·simp [A.mapR,Ao,e,A.roots] at h
   ·have:A.mapR (Ao r n) (.rfv vv y p) = .rfv vv y p:=by simp [A.mapR,Ao,e]
    rw [this] at h;exact h
 | .addr y p c,h=>by
   by_cases e:y=r∧n≤p.length
   ·simp [A.mapR,Ao,e,A.roots] at h
   ·have:A.mapR (Ao r n) (.addr y p c) = .addr y p c:=by simp [A.mapR,Ao,e]
    rw [this] at h;exact h
 | .fad _,h=>h
 | .agg as,h=>by
   simp only [A.mapR,A.roots] at h ⊢
   exact Yw as h
 | .clo f as,h=>by
   simp only [A.mapR,A.roots] at h ⊢
   exact Yw as h
theorem Yw {x r n:Nat}:(as:List A)→x∈E2 (Cd (Ao r n) as)→x∈E2 as
 | [],h=>h
 | a::q,h=>by
   simp only [Cd,E2,List.mem_append] at h ⊢
   exact h.imp (Ak3 a) (Yw q)
end
theorem Ath {t:Nat} : ∀ {cs:List (Nat×V×Nat)} {L:Nat→A},(∀s,(L s).mapR (Ao t 0)=L s) → ∀s,(E7 cs L s).mapR (Ao t 0)=E7 cs L s:=by
 intro cs
 induction cs with
 | nil=>intro L h;exact h
 | cons c q ih=>
   intro L h
   obtain ⟨r,T,n⟩:=c
   simp only [E7]
   refine ih fun s=> ?_
   split
   ·rfl
   ·exact Aj4 _ (h s)
theorem Ane {s:Nat} {cs:List (Nat×V×Nat)} {L:Nat→A} (h:L s = .top) (hc : ∀c∈cs,c.1≠s):E7 cs L s = .top:=by
 rw [Acq,h]
 intro c hcc
 exact ⟨hc c hcc,by rw [h];simp [A.roots]⟩
def Cl (h:List Nat) (L M:Nat→A):Prop := ∀s,L s = .top∨(M s=L s∧h.contains s=false ∧ ∀r∈(L s).roots,h.contains r=false)
theorem Cl.tau {h:List Nat} : ∀ {cs:List (Nat×V×Nat)} {L M:Nat→A},(∀c∈cs,h.contains c.1=true)→Cl h L M→Cl h L (E7 cs M):=by
 intro cs L M hc hl s
 rcases hl s with e | ⟨e1,e2,e3⟩
 ·exact .inl e
 refine .inr ⟨?_,e2,e3⟩
 rw [Acq,e1]
 intro c hcc
 have:=hc c hcc
 refine ⟨fun e=> ?_,fun hr=> ?_⟩
 ·rw [e,e2] at this;cases this
 rw [e1] at hr
 rw [e3 _ hr] at this;cases this
theorem Cl.one {h:List Nat} {r n:Nat} {T:V} {L M:Nat→A} (hc:h.contains r=false) (hl:Cl h L M) :
  Cl h (fun s=>if s=r then .val T else (L s).mapR (Ao r n)) (fun s=>if s=r then .val T else (M s).mapR (Ao r n)):=by
 intro s
 simp only
 by_cases e:s=r
 ·right
  rw [if_pos e,if_pos e]
  subst e
  exact ⟨rfl,hc,by simp [A.roots]⟩
 rw [if_neg e,if_neg e]
 rcases hl s with e1 | ⟨e1,e2,e3⟩
 ·left;rw [e1];rfl
 exact .inr ⟨by rw [e1],e2,fun x hx=>e3 x (Ak3 _ hx)⟩
theorem Cl.both {h:List Nat} : ∀ {cs:List (Nat×V×Nat)} {L M:Nat→A},Cl h L M→Cl h (E7 (cs.filter fun c => !h.contains c.1) L) (E7 cs M):=by
 intro cs
 induction cs with
 | nil=>intro L M hl;exact hl
 | cons c q ih=>
   intro L M hl
   obtain ⟨r,T,n⟩:=c
   cases hr:h.contains r with
   | true=>
     rw [List.filter_cons_of_neg (by simp only [hr];simp)]
     exact ih (Cl.tau (cs:=[(r,T,n)]) (by simpa using hr) hl)
   | false=>
     rw [List.filter_cons_of_pos (by simp only [hr];rfl)]
     exact ih (Cl.one hr hl)
theorem Cl.base {h:List Nat} {S:Nat→Bool} {i:Nat} : ∀ {CS:List (List (Nat×V×Nat))} {k:Nat} {L M:Nat→A},Cl h L M →
  (∀j cs,CS[j]? = some cs → ∀c∈cs,h.contains c.1=false→(S (k+j)=true↔k+j<i))→Cl h (E7 ((CS.take (i-k)).flatten.filter fun c => !h.contains c.1) L) (bLL S k CS M):=by
 intro CS
 induction CS with
 | nil=>intro k L M hl _;simpa [E7,bLL] using hl
 | cons c r ih=>
   intro k L M hl hS
   have hS' : ∀j cs,r[j]? = some cs → ∀c∈cs,h.contains c.1=false→(S (k+1+j)=true↔k+1+j<i):=by
    intro j cs hj c hc hh
    have:=hS (j+1) cs (by simpa using hj) c hc hh
    rw [show k+(j+1)=k+1+j by omega] at this;exact this
   have h0:=hS 0 c rfl
   simp only [Nat.add_zero] at h0
   simp only [bLL]
   by_cases hk:k<i
   ·rw [show i-k=(i-(k+1))+1 by omega,List.take_succ_cons,List.flatten_cons,List.filter_append,Ad5]
    refine ih ?_ hS'
    cases hSk:S k with
    | true=>exact Cl.both hl
    | false=>
      have:(c.filter fun c => !h.contains c.1)=[]:=by
       rw [List.filter_eq_nil_iff]
       intro x hx
       cases hh:h.contains x.1 with
       | true=>simp
       | false=>rw [hSk] at h0;have:=(h0 x hx hh).2 hk;cases this
      rw [this]
      exact hl
   ·have e:=ih (k:=k+1) (L:=L) (M:=if S k=true then E7 c M else M) (by
     cases hSk:S k with
     | false=>exact hl
     | true=>
       refine Cl.tau (fun x hx=> ?_) hl
       cases hh:h.contains x.1 with
       | true=>rfl
       | false=>exact absurd ((h0 x hx hh).1 hSk) hk) hS'
    rw [show i-(k+1)=0 by omega] at e
    rw [show i-k=0 by omega]
    exact e
theorem W7 (h:List Nat) (σ:St) (s:Nat):look (Aaq h σ) s=if h.contains s || (look σ s).roots.any (h.contains ·) then .top else look σ s:=by
 induction σ with
 | nil=>simp [Aaq,look,A.roots]
 | cons e r ih=>
   obtain ⟨k,a⟩:=e
   simp only [Aaq,look]
   by_cases hk:k=s
   ·subst hk;simp
   ·simp only [if_neg hk,ih]
theorem Cl.hide (h:List Nat) (σ:St):Cl h (look (Aaq h σ)) (look σ):=by
 intro s
 rw [W7]
 split
 ·exact .inl rfl
 rename_i hc
 simp only [Bool.or_eq_true,not_or,Bool.not_eq_true,List.any_eq_false] at hc
 exact .inr ⟨rfl,hc.1,fun r hr=>by simpa using hc.2 r hr⟩
theorem Ai1 {S:Nat→Bool} : ∀ {CS:List (List (Nat×V×Nat))} {k:Nat} {L:Nat→A},(∀j cs,CS[j]? = some cs→cs≠[]→S (k+j)=false)→bLL S k CS L=L:=by
 intro CS
 induction CS with
 | nil=>intro k L _;rfl
 | cons c r ih=>
   intro k L h
   have h0:(if S k=true then E7 c L else L)=L:=by
    by_cases hc:c=[]
    ·subst hc;simp [E7]
    ·rw [show S k=false by simpa using h 0 c rfl hc];simp
   simp only [bLL]
   rw [h0]
   exact ih fun j cs hj hc=>by rw [show k+1+j=k+(j+1) by omega];exact h (j+1) cs (by simpa using hj) hc
theorem Axf {S S':Nat→Bool} : ∀ {CS:List (List (Nat×V×Nat))} {k:Nat} {L:Nat→A},(∀j cs,CS[j]? = some cs→cs≠[]→S (k+j)=S' (k+j))→bLL S k CS L=bLL S' k CS L:=by
 intro CS
 induction CS with
 | nil=>intro k L _;rfl
 | cons c r ih=>
   intro k L h
   have h0:(if S k=true then E7 c L else L)=(if S' k=true then E7 c L else L):=by
    by_cases hc:c=[]
    ·subst hc;simp [E7]
    ·rw [show S k=S' k by simpa using h 0 c rfl hc]
   simp only [bLL]
   rw [h0]
   exact ih fun j cs hj hc=>by rw [show k+1+j=k+(j+1) by omega];exact h (j+1) cs (by simpa using hj) hc
theorem A1r {S S':Nat→Bool} {i:Nat} {cs:List (Nat×V×Nat)} : ∀ {CS:List (List (Nat×V×Nat))} {k:Nat} {L:Nat→A},k≤i→CS[i-k]? = some cs→S i=false→S' i=true→(∀j,j≠i→S' j=S j) →
  (∀j cs,CS[j]? = some cs→cs≠[]→i<k+j→S (k+j)=false)→bLL S' k CS L=E7 cs (bLL S k CS L):=by
 intro CS
 induction CS with
 | nil=>intro k L _ h;simp at h
 | cons c r ih=>
   intro k L hk hi hSi hSi' hne hgt
   simp only [bLL]
   rcases Nat.eq_or_lt_of_le hk with e | e
   ·subst e
    simp at hi
    subst hi
    rw [hSi,hSi']
    simp only [if_true,Bool.false_eq_true,if_false]
    rw [Ai1 (S:=S'),Ai1 (S:=S)]
    ·intro j cs hj hc
     rw [show k+1+j=k+(j+1) by omega]
     exact hgt (j+1) cs (by simpa using hj) hc (by omega)
    ·intro j cs hj hc
     rw [hne _ (by omega),show k+1+j=k+(j+1) by omega]
     exact hgt (j+1) cs (by simpa using hj) hc (by omega)
   ·rw [hne k (by omega)]
    exact ih (by omega) (by rw [show i-k=(i-(k+1))+1 by omega] at hi;simpa using hi) hSi hSi' hne fun j cs hj hc hl=>by
     rw [show k+1+j=k+(j+1) by omega] at hl ⊢
     exact hgt (j+1) cs (by simpa using hj) hc hl
theorem A1y {S:Nat→Bool} : ∀ {CS:List (List (Nat×V×Nat))} {k:Nat} {L:Nat→A},(∀j,j<CS.length→S (k+j)=true)→bLL S k CS L=E7 CS.flatten L:=by
 intro CS
 induction CS with
 | nil=>intro k L _;rfl
 | cons c r ih=>
   intro k L h
   simp only [bLL,List.flatten_cons]
   rw [show S k=true by simpa using h 0 (by simp),Ad5]
   simp only [if_true]
   exact ih fun j hj=>by rw [show k+1+j=k+(j+1) by omega];exact h (j+1) (by simpa using hj)
theorem Aub {S:Nat→Bool} : ∀ {CS:List (List (Nat×V×Nat))} {k:Nat} {σ:St},(∀c∈CS.flatten,∃U,look σ c.1 = .val U)→look (Au5 S k CS σ)=bLL S k CS (look σ):=by
 intro CS
 induction CS with
 | nil=>intro k σ _;rfl
 | cons c r ih=>
   intro k σ h
   simp only [Au5,bLL]
   have hc : ∀x∈c,∃U,look σ x.1 = .val U:=fun x hx=>h x (by simp [hx])
   rw [ih]
   ·cases hS:S k with
    | true=>simp only [if_true];rw [Kc hc]
    | false=>simp
   ·intro x hx
    obtain ⟨U,hU⟩:=h x (by simp only [List.flatten_cons,List.mem_append];exact .inr hx)
    cases hS:S k with
    | true=>simp only [if_true];rw [Kc hc];exact Am8 hU
    | false=>exact ⟨U,by simpa using hU⟩
theorem Ayw {S:Nat→Bool} {t:Nat} : ∀ {CS:List (List (Nat×V×Nat))} {k:Nat} {L:Nat→A},(∀s,(L s).mapR (Ao t 0)=L s) → ∀s,(bLL S k CS L s).mapR (Ao t 0)=bLL S k CS L s:=by
 intro CS
 induction CS with
 | nil=>intro k L h;exact h
 | cons c r ih=>
   intro k L h
   simp only [bLL]
   refine ih ?_
   split
   ·exact Ath h
   ·exact h
theorem A1p {S:Nat→Bool} {s:Nat} : ∀ {CS:List (List (Nat×V×Nat))} {k:Nat} {L:Nat→A},L s = .top→(∀c∈CS.flatten,c.1≠s)→bLL S k CS L s = .top:=by
 intro CS
 induction CS with
 | nil=>intro k L h _;exact h
 | cons c r ih=>
   intro k L h hc
   simp only [bLL]
   refine ih ?_ fun x hx=>hc x (by simp only [List.flatten_cons,List.mem_append];exact .inr hx)
   split
   ·exact Ane h fun x hx=>hc x (by simp [hx])
   ·exact h
theorem A03 {S:Nat→Bool} {s:Nat} : ∀ {CS:List (List (Nat×V×Nat))} {k:Nat} {L:Nat→A} {U},L s = .val U → ∃U',bLL S k CS L s = .val U':=by
 intro CS
 induction CS with
 | nil=>intro k L U h;exact ⟨U,h⟩
 | cons c r ih=>
   intro k L U h
   simp only [bLL]
   split
   ·obtain ⟨U',h'⟩:=Am8 (cs:=c) h;exact ih h'
   ·exact ih h
section
variable {P:Program} {ops:Array Oper} {gv:Nat→Value} {N:Nat} {Q:Exit→Act→World→Prop} {ls:List Nat} {σ0 B:St} {pre:List (G×List Nat)} {H:St} {KS:List (List Nat)} {CS:List (List (Nat×V×Nat))} {n0:Nat}
theorem Ayu : ∀ {os:List Oper} {acc},(Ahf os acc).length=acc.length+os.length:=by
 intro os
 induction os with
 | nil=>intro acc;simp [Ahf]
 | cons o r ih=>intro acc;simp only [Ahf];rw [ih];simp;omega
theorem Ar9 : ∀ {os:List Oper} {acc} {i},i<acc.length→(Ahf os acc)[i]? = acc[i]? := by
 intro os
 induction os with
 | nil=>intro acc i _;rfl
 | cons o r ih=>
   intro acc i h
   simp only [Ahf]
   rw [ih (by simp;omega),List.getElem?_append_left h]
theorem Avv : ∀ {os:List Oper} {acc:List (List Nat)} {i:Nat} {o:Oper} {j:Nat},os[i]? = some o→j∈(Ahf os acc).getD (acc.length+i) []→(∀e∈o.after,Region.binds .any e=true→e.on<acc.length+i) →
  ∃e∈o.after,Region.binds .any e=true∧(j=e.on∨j∈(Ahf os acc).getD e.on []):=by
 intro os
 induction os with
 | nil=>intro acc i o j h;simp at h
 | cons o' r ih=>
   intro acc i o j h hj he
   cases i with
   | zero=>
     simp at h;subst h
     simp only [Ahf,Nat.add_zero] at hj
     rw [List.getD_eq_getElem?_getD,Ar9 (by simp)] at hj
     simp at hj
     obtain ⟨e,⟨h1,h2⟩,h3⟩:=hj
     refine ⟨e,h1,h2,h3.imp id fun h3=> ?_⟩
     have hlt:=he e h1 h2
     simp only [Nat.add_zero] at hlt
     simp only [Ahf]
     rw [List.getD_eq_getElem?_getD,Ar9 (by simp;omega),List.getElem?_append_left hlt]
     simpa using h3
   | succ i=>
     simp only [Ahf] at hj ⊢
     have h':r[i]? = some o:=by simpa using h
     have:=ih (acc:=acc++[((o'.after.toList.filter (Region.binds .any ·)).flatMap fun e=>e.on::acc.getD e.on []).eraseDups]) (j:=j) h' (by simpa [Nat.add_assoc,Nat.add_comm 1 i] using hj) (by
      intro e h1 h2
      have:=he e h1 h2
      simp;omega)
     exact this
theorem Ij {n:Nat} {listed:Array Bool} (inv:HeadInv .any ops n listed) (hlt : ∀(i:Nat) (o:Oper),ops[i]? = some o → ∀e∈o.after,Region.binds .any e=true→e.on<i) :
  ∀(i:Nat) (o:Oper),ops[i]? = some o→(∀e∈o.after,Region.binds .any e=true→listed.getD e.on false=true) → ∀j∈(F3 ops).getD i [],listed.getD j false=true:=by
 intro i
 induction i using Nat.strongRecOn with
 | _ i ih=>
   intro o ho hall j hj
   obtain ⟨e,he,hb,h⟩:=Avv (os:=ops.toList) (acc:=[]) (i:=i) (o:=o) (j:=j) (by simpa using ho) (by simpa [F3] using hj) (by simpa using hlt i o ho)
   rcases h with rfl | h
   ·exact hall e he hb
   ·have hl:=hall e he hb
    have hon:=hlt i o ho e he hb
    have hs:e.on<ops.size:=by have:=(Array.getElem?_eq_some_iff.1 ho).1;omega
    have ho2:ops[e.on]? = some ops[e.on]:=by simp [hs]
    exact ih e.on hon _ ho2 (fun e' he' hb'=>inv.closed e.on _ ho2 hl e' he' hb') j h
theorem Aj0 {T:List (List Nat)} : ∀ {pre:List (G×List Nat)} {k i:Nat} {x:G} {hide:List Nat},Re ops T k pre=true→pre[i]? = some (x,hide) →
  ∀j,j<k+i→j∈T.getD (k+i) [] ∨ ∃d,(ops[j]?).bind (fun o:Oper=>o.dst)=some d∧hide.contains d=true:=by
 intro pre
 induction pre with
 | nil=>intro k i x hide _ h;simp at h
 | cons e r ih=>
   intro k i x hide h hp j hj
   obtain ⟨y,hd⟩:=e
   simp only [Re,Bool.and_eq_true] at h
   cases i with
   | zero=>
     simp at hp;obtain ⟨rfl,rfl⟩:=hp
     have:=List.all_eq_true.1 h.1 j (List.mem_range.2 (by simpa using hj))
     simp only [Bool.or_eq_true] at this
     rcases this with h1 | h1
     ·exact .inl (by simpa using h1)
     ·right
      split at h1
      ·rename_i d hd;exact ⟨d,hd,h1⟩
      ·cases h1
   | succ i=>
     have:=ih (k:=k+1) (i:=i) h.2 (by simpa using hp) j (by omega)
     rwa [show k+1+i=k+(i+1) by omega] at this
theorem Aik (hH:Heads n0 P ops gv N Q ls σ0 pre H KS CS) {i s:Nat} {ks:List Nat} {x:G} {hide:List Nat} (hk:KS[i]? = some ks) (hp:pre[i]? = some (x,hide)) (hs:s∈ks) :
  s∈Aim x.o ∧ ∃(j:Nat) (q:A),j<i∧(H:List (Nat×A))[j]? = some (s,q)∧hide.contains s=false:=by
 have h:=hH.kin i ks x hide hk hp
 unfold Ack at h
 have:=List.all_eq_true.1 h s hs
 simp only [Bool.and_eq_true] at this
 refine ⟨by simpa using this.2,?_⟩
 have hkey:=this.1
 rw [Z5] at hkey
 simp only [Bool.and_eq_true,Bool.not_eq_true'] at hkey
 obtain ⟨j,q,hj⟩:=Jz hkey.1
 have hji:j<i:=by
  have:=(List.getElem?_eq_some_iff.1 hj).1
  simp at this;omega
 rw [List.getElem?_take,if_pos hji] at hj
 refine ⟨j,q,hji,hj,?_⟩
 cases hc:hide.contains s with
 | false=>rfl
 | true=>
   have:(hide++(KS.take i).flatten).contains s=true:=by
    simp only [List.contains_iff_mem] at hc ⊢
    exact List.mem_append_left _ hc
   rw [this] at hkey;cases hkey.2
theorem Avx (hH:Heads n0 P ops gv N Q ls σ0 pre H KS CS) (hT:Re ops (F3 ops) 0 pre=true) {i s j:Nat} {q:A} {ks:List Nat} {x:G} {hide:List Nat} (hk:KS[i]? = some ks) (hp:pre[i]? = some (x,hide)) (hs:s∈ks) (hj0:n0≤j) (hj:(H:List (Nat×A))[j]? = some (s,q)) :
  j<i∧j∈(F3 ops).getD i []:=by
 obtain ⟨_,j',q',hji,hj',hh⟩:=Aik hH hk hp hs
 have:=A3x hH.kn hj hj'
 subst this
 refine ⟨hji,?_⟩
 rcases Aj0 hT hp j (by omega) with h1 | ⟨d',h1,h2⟩
 ·simpa using h1
 rw [hH.dst j s q hj0 hj] at h1
 cases h1
 rw [h2] at hh;cases hh
theorem Axs {T:List (List Nat)} (h:Aky ops T pre=true) {i k j s:Nat} {x y:G} {hx hy:List Nat} (hp:pre[i]? = some (x,hx)) (hs:s∈Aim x.o) (hk:k<i) (hpk:pre[k]? = some (y,hy)) (hj:j<k) (hd:(ops[j]?).bind (fun o:Oper=>o.dst)=some s) :
  hy.contains s=true∨k∈T.getD i []:=by
 unfold Aky at h
 have h1:=List.all_eq_true.1 h i (List.mem_range.2 (List.getElem?_eq_some_iff.1 hp).1)
 rw [hp] at h1
 have h2:=List.all_eq_true.1 (List.all_eq_true.1 h1 s hs) k (List.mem_range.2 hk)
 rw [hpk] at h2
 simp only [Bool.or_eq_true] at h2
 rcases h2 with (h2 | h2) | h2
 ·have:=List.all_eq_true.1 h2 j (List.mem_range.2 hj)
  simp [hd] at this
 ·exact .inl h2
 exact .inr (by simpa using h2)
theorem Ay6 {n i:Nat} {listed:Array Bool} {x:G} {hide:List Nat} {d:Nat} {r:A} (hH:Heads n0 P ops gv N Q ls σ0 pre H KS CS) (hT:Re ops (F3 ops) 0 pre=true) (hKT:Aky ops (F3 ops) pre=true) (hpl:pre.length=n)
  (hp:pre[i]? = some (x,hide)) (_hi:(H:List (Nat×A))[i]? = some (d,r)) (hb : ∀j∈(F3 ops).getD i [],listed.getD j false=true) (hcl : ∀k,listed.getD k false=true → ∀j∈(F3 ops).getD k [],listed.getD j false=true) (hui:listed.getD i false=false)
  {V0:St} (hV : ∀s,Bb s H=true→look V0 s = .top) (hVB : ∀s,look V0 s = .top∨look B s=look V0 s) :
  Le (Eg (hide++(KS.take i).flatten) ((H:List (Nat×A)).take i)++V0) (mid listed KS H B):=by
 intro s
 rw [F5,mid,F5]
 by_cases hk:Bb s (Eg (hide++(KS.take i).flatten) ((H:List (Nat×A)).take i))=true
 ·rw [if_pos hk]
  rw [Z5] at hk
  simp only [Bool.and_eq_true,Bool.not_eq_true'] at hk
  rw [Abm _ _ _ hk.2]
  have hnh:hide.contains s=false∧(KS.take i).flatten.contains s=false:=by
   have:=hk.2
   simp only [←Bool.not_eq_true,List.contains_iff_mem,List.mem_append,not_or] at this ⊢
   exact this
  obtain ⟨j,q,hj⟩:=Jz hk.1
  have hji:j<i:=by
   have:=(List.getElem?_eq_some_iff.1 hj).1
   simp at this;omega
  have hj':(H:List (Nat×A))[j]? = some (s,q):=by
   rw [List.getElem?_take,if_pos hji] at hj;exact hj
  have hlook:look ((H:List (Nat×A)).take i) s=q:=by
   have hkt : ∀(A B:St),kn (A++B)=true→kn A=true:=by
    intro A B
    induction A with
    | nil=>intro _;rfl
    | cons e r ih=>
      obtain ⟨k,a⟩:=e
      intro h
      simp only [List.cons_append,kn,Bool.and_eq_true,Bool.not_eq_true'] at h ⊢
      refine ⟨?_,ih h.2⟩
      have:=h.1
      cases hkr:Bb k r with
      | false=>rfl
      | true=>
        obtain ⟨m,q,hm⟩:=Jz hkr
        have:Bb k (r++B)=true:=Rc (i:=m) (r:=q) (by rw [List.getElem?_append_left (List.getElem?_eq_some_iff.1 hm).1];exact hm)
        rw [this] at h;exact absurd h.1 (by simp)
   exact Au6 (hkt _ ((H:List (Nat×A)).drop i) (by rw [List.take_append_drop];exact hH.kn)) hj
  by_cases hj0:j<n0
  ·left;rw [hlook];exact hH.dum j s q hj0 hj'
  have hj0:n0≤j:=Nat.not_lt.1 hj0
  have hl:listed.getD j false=true:=by
   rcases Aj0 hT hp j (by omega) with h1 | ⟨d',h1,h2⟩
   ·exact hb j (by simpa using h1)
   ·rw [hH.dst j s q hj0 hj'] at h1
    cases h1
    rw [h2] at hnh;cases hnh.1
  have hnk:kd listed KS s=false:=by
   cases hkd:kd listed KS s with
   | false=>rfl
   | true=>
     obtain ⟨k,ks,hks,hlk,hsk⟩:=Ade.1 hkd
     have hkl:k<pre.length:=by
      have:=(List.getElem?_eq_some_iff.1 hks).1
      have h2:=hH.klen
      have h3:=hH.len
      omega
     have hpk:pre[k]? = some pre[k]:=by simp [hkl]
     rcases Nat.lt_trichotomy k i with h1 | h1 | h1
     ·have:s∈(KS.take i).flatten:=List.mem_flatten.2 ⟨ks,List.mem_iff_getElem?.2 ⟨k,by rw [List.getElem?_take,if_pos h1];exact hks⟩,hsk⟩
      have h2:=hnh.2
      rw [List.contains_iff_mem.2 this] at h2;cases h2
     ·subst h1;rw [hui] at hlk;cases hlk
     ·have hm:=(Aik hH hks (x:=pre[k].1) (hide:=pre[k].2) hpk hsk).1
      rcases Axs hKT hpk hm h1 hp hji (hH.dst j s q hj0 hj') with h2 | h2
      ·rw [h2] at hnh;cases hnh.1
      ·have:=hcl k hlk i h2
       rw [hui] at this;cases this
  have ho:=Au8 (S:=Akr listed KS H) (k:=0) hH.kn hj'
  simp only [Nat.zero_add] at ho
  have hal:Akr listed KS H j=true:=by rw [Ajt hj',hl,hnk];rfl
  rw [ho.1,hal]
  right
  simp only [if_true]
  rw [ho.2 hal]
  exact hlook.symm
 rw [if_neg hk]
 by_cases h2:Bb s H=true
 ·left
  exact hV s h2
 have:=Aqo (S:=Akr listed KS H) (k:=0) (s:=s) (H:=H) (by simpa using h2)
 rw [this]
 exact hVB s
theorem H7 (hH:Heads n0 P ops gv N Q ls σ0 pre H KS CS) (hB : ∀s,Bb s H=true→look B s = .top) (listed:Array Bool) {j s:Nat} {q:A} (hj:(H:List (Nat×A))[j]? = some (s,q)):look (mid listed KS H B) s=if listed.getD j false=true∧kd listed KS s=false then q else .top:=by
 rw [mid,F5]
 have ho:=Au8 (S:=Akr listed KS H) (k:=0) hH.kn hj
 simp only [Nat.zero_add] at ho
 rw [ho.1]
 rw [Ajt hj] at ho
 rw [Ajt hj]
 by_cases hc:listed.getD j false=true∧kd listed KS s=false
 ·have:(listed.getD j false && !kd listed KS s)=true:=by rw [hc.1,hc.2];rfl
  rw [if_pos this,if_pos hc,ho.2 this]
 have:¬(listed.getD j false && !kd listed KS s)=true:=by
  simp only [Bool.and_eq_true,Bool.not_eq_true'];exact hc
 rw [if_neg this,if_neg hc]
 exact hB s (Rc hj)
theorem Q6 {listed:Array Bool} {s:Nat} (h:Bb s H=false):look (mid listed KS H B) s=look B s:=by
 rw [mid,F5,Aqo h];rfl
theorem Avf {i:Nat} {listed:Array Bool} {d:Nat} {r:A} {ks:List Nat} (hi0:n0≤i) (hH:Heads n0 P ops gv N Q ls σ0 pre H KS CS) (hT:Re ops (F3 ops) 0 pre=true) (hi:(H:List (Nat×A))[i]? = some (d,r)) (hki:KS[i]? = some ks) (hsz:i<listed.size) (hun:listed.getD i false=false)
  (hcl : ∀k,listed.getD k false=true → ∀j∈(F3 ops).getD k [],listed.getD j false=true)
  (hroots:O9 H KS.flatten=true) (hold : ∀t,Bb t H=true → ∀s,(look B s).mapR (Ao t 0)=look B s) (hB : ∀s,Bb s H=true→look B s = .top)
  (hr:r.mapR (Ao d 0)=r) (hnd : ∀s,(look (mid listed KS H B) s).mapR (Ao d 0)=look (mid listed KS H B) s) :
  look (Ak d r (N4 ks (mid listed KS H B)))=look (mid (listed.setIfInBounds i true) KS H B):=by
 have hsize : ∀ {k:Nat} {ks':List Nat},KS[k]? = some ks' → ∃x hide,pre[k]? = some (x,hide):=by
  intro k ks' hk
  have h1:=(List.getElem?_eq_some_iff.1 hk).1
  have h2:=hH.klen
  have h3:=hH.len
  have:k<pre.length:=by omega
  exact ⟨pre[k].1,pre[k].2,by simp [this]⟩
 have hd:look (mid listed KS H B) d = .top:=by
  rw [H7 hH hB listed hi,hun];simp
 have hno : ∀t∈ks,∀s,(look (mid listed KS H B) s).mapR (Ao t 0)=look (mid listed KS H B) s:=by
  intro t ht s
  obtain ⟨x,hide,hp⟩:=hsize hki
  obtain ⟨_,j,q,_,hj,_⟩:=Aik hH hki hp ht
  by_cases hk:Bb s H=true
  ·obtain ⟨j2,q2,hj2⟩:=Jz hk
   rw [H7 hH hB listed hj2]
   split
   ·refine Agv q2 fun r2 hr2=> ?_
    rintro rfl
    have h1:=List.all_eq_true.1 hroots _ (List.mem_of_getElem? hj2)
    have h2:=List.all_eq_true.1 h1 _ hr2
    have h3:r2∈KS.flatten:=List.mem_flatten.2 ⟨ks,List.mem_of_getElem? hki,ht⟩
    rw [List.contains_iff_mem.2 h3] at h2;cases h2
   ·rfl
  ·rw [Q6 (by simpa using hk)]
   exact hold t (Rc hj) s
 have hdk:d∉ks:=by
  intro hdk
  obtain ⟨x,hide,hp⟩:=hsize hki
  have:=(Avx hH hT hki hp hdk hi0 hi).1
  omega
 have hdn:kd listed KS d=false:=by
  cases hkd:kd listed KS d with
  | false=>rfl
  | true=>
    obtain ⟨k,ks',hks,hlk,hsk⟩:=Ade.1 hkd
    obtain ⟨x,hide,hp⟩:=hsize hks
    have:=hcl k hlk i (Avx hH hT hks hp hsk hi0 hi).2
    rw [hun] at this;cases this
 have htops:=Axl (σ:=mid listed KS H B) hno
 rw [Bl,hr]
 funext s
 simp only [upF,Gw]
 by_cases hsd:s=d
 ·subst hsd
  rw [if_pos rfl,H7 hH hB _ hi,if_pos]
  refine ⟨by simp [hsz],?_⟩
  rw [Ayn hki hsz,hdn]
  simpa using hdk
 rw [if_neg hsd,if_neg hsd,htops s]
 by_cases hk:Bb s H=true
 ·obtain ⟨j,q,hj⟩:=Jz hk
  have hji:i≠j:=by
   rintro rfl
   rw [hi] at hj;simp at hj;exact hsd hj.1.symm
  rw [H7 hH hB (listed.setIfInBounds i true) hj,getD_set_ne false hji,Ayn hki hsz]
  by_cases hsk:ks.contains s=true
  ·rw [if_pos hsk,hsk]
   simp [A.mapR]
  have hsk':ks.contains s=false:=by simpa using hsk
  rw [if_neg hsk,hsk',Bool.or_false,hnd,H7 hH hB listed hj]
 have hk':Bb s H=false:=by simpa using hk
 have hsk:ks.contains s=false:=by
  cases hc:ks.contains s with
  | false=>rfl
  | true=>
    obtain ⟨x,hide,hp⟩:=hsize hki
    obtain ⟨_,j,q,_,hj,_⟩:=Aik hH hki hp (by simpa using hc)
    rw [Rc hj] at hk';cases hk'
 rw [hsk,if_neg (by simp),hnd,Q6 hk',Q6 hk']
theorem Ao4 (hlt : ∀(i:Nat) (o:Oper),ops[i]? = some o → ∀e∈o.after,Region.binds .any e=true→e.on<i) : ∀(i:Nat),∀j∈(F3 ops).getD i [],j<i:=by
 intro i
 induction i using Nat.strongRecOn with
 | _ i ih=>
   intro j hj
   cases ho:ops[i]? with
   | none=>
     have h1:(F3 ops)[i]? = none:=by
      have hl:(F3 ops).length=ops.size:=by unfold F3;rw [Ayu];simp
      rw [List.getElem?_eq_none_iff,hl]
      exact Array.getElem?_eq_none_iff.1 ho
     rw [List.getD_eq_getElem?_getD,h1] at hj
     cases hj
   | some o=>
     obtain ⟨e,he,hb,h⟩:=Avv (os:=ops.toList) (acc:=[]) (i:=i) (o:=o) (j:=j) (by simpa using ho) (by simpa [F3] using hj) (by simpa using hlt i o ho)
     have h1:=hlt i o ho e he hb
     rcases h with rfl | h
     ·exact h1
     ·exact Nat.lt_trans (ih e.on h1 j (by simpa [F3] using h)) h1
theorem And {T:List (List Nat)} (h:Agg T pre=true) {i k s:Nat} {q:List Nat} {x y:G} {hx hy:List Nat} (hp:pre[i]? = some (x,hx)) (hs:Mp x.o hx=s::q) (hpk:pre[k]? = some (y,hy)) (hki:k≠i) :
  k∈T.getD i []∨i∈T.getD k []∨(hy.contains s=true∧Mp y.o hy=[]):=by
 unfold Agg at h
 have h1:=List.all_eq_true.1 h i (List.mem_range.2 (List.getElem?_eq_some_iff.1 hp).1)
 rw [hp] at h1
 simp only [hs] at h1
 have h2:=List.all_eq_true.1 h1 k (List.mem_range.2 (List.getElem?_eq_some_iff.1 hpk).1)
 rw [hpk] at h2
 simp only [Bool.or_eq_true,Bool.and_eq_true,beq_iff_eq,List.isEmpty_iff] at h2
 rcases h2 with ((h2 | h2) | h2) | h2
 ·exact absurd h2 hki
 ·exact .inl (by simpa using h2)
 ·exact .inr (.inl (by simpa using h2))
 exact .inr (.inr h2)
abbrev bas (listed:Array Bool) (CS:List (List (Nat×V×Nat))) (σ0:St):St:=Au5 (fun i=>listed.getD i false) 0 CS σ0
theorem Aoe (hH:Heads n0 P ops gv N Q ls σ0 pre H KS CS) {c:Nat×V×Nat} (hc:c∈CS.flatten) {s:Nat} (hs:Bb s H=true):c.1≠s:=by
 rintro rfl
 obtain ⟨j,q,hj⟩:=Jz hs
 have h1:=hH.top _ (List.mem_of_getElem? hj)
 obtain ⟨U,hU⟩:=hH.cval c hc
 rw [hU] at h1;cases h1
theorem K5 (hH:Heads n0 P ops gv N Q ls σ0 pre H KS CS) (listed:Array Bool):look (bas listed CS σ0)=bLL (fun i=>listed.getD i false) 0 CS (look σ0):=Aub hH.cval
theorem Aee (hH:Heads n0 P ops gv N Q ls σ0 pre H KS CS) (listed:Array Bool) : ∀s,Bb s H=true→look (bas listed CS σ0) s = .top:=by
 intro s hs
 rw [K5 hH]
 obtain ⟨j,q,hj⟩:=Jz hs
 exact A1p (hH.top _ (List.mem_of_getElem? hj)) fun c hc=>Aoe hH hc hs
theorem As7 (hH:Heads n0 P ops gv N Q ls σ0 pre H KS CS) (hold : ∀t,Bb t H=true → ∀s,(look σ0 s).mapR (Ao t 0)=look σ0 s) (listed:Array Bool) : ∀t,Bb t H=true → ∀s,(look (bas listed CS σ0) s).mapR (Ao t 0)=look (bas listed CS σ0) s:=by
 intro t ht s
 rw [K5 hH]
 exact Ayw (hold t ht) s
theorem Av1 {n i:Nat} {listed:Array Bool} {x:G} {hide:List Nat} (hH:Heads n0 P ops gv N Q ls σ0 pre H KS CS) (hLT:Agg (F3 ops) pre=true) (hpl:pre.length=n) (hl:H.length=n)
  (hlt : ∀(i:Nat) (o:Oper),ops[i]? = some o → ∀e∈o.after,Region.binds .any e=true→e.on<i)
  (hp:pre[i]? = some (x,hide)) (hb : ∀j∈(F3 ops).getD i [],listed.getD j false=true) (hcl : ∀k,listed.getD k false=true → ∀j∈(F3 ops).getD k [],listed.getD j false=true) (hui:listed.getD i false=false) :
  ∀s,look (Nv ls (N1 x.o hide) (CS.take i).flatten σ0) s = .top∨look (bas listed CS σ0) s=look (Nv ls (N1 x.o hide) (CS.take i).flatten σ0) s:=by
 intro s
 have hsub : ∀c∈(CS.take i).flatten,c∈CS.flatten:=by
  intro c hc
  obtain ⟨l,h1,h2⟩:=List.mem_flatten.1 hc
  exact List.mem_flatten.2 ⟨l,List.mem_of_mem_take h1,h2⟩
 have hv : ∀c∈((CS.take i).flatten.filter fun c => !((N1 x.o hide).filter (ls.contains ·)).contains c.1),∃U,look (Aaq ((N1 x.o hide).filter (ls.contains ·)) σ0) c.1 = .val U:=by
  intro c hc
  obtain ⟨h1,h2⟩:=List.mem_filter.1 hc
  obtain ⟨U,hU⟩:=hH.cval c (hsub c h1)
  refine ⟨U,?_⟩
  rw [W7,hU]
  have h3:((N1 x.o hide).filter (ls.contains ·)).contains c.1=false:=by
   cases hcc:((N1 x.o hide).filter (ls.contains ·)).contains c.1 with
   | false=>rfl
   | true=>rw [hcc] at h2;cases h2
  rw [h3];simp [A.roots]
 have key:=Cl.base (h:=(N1 x.o hide).filter (ls.contains ·)) (S:=fun i=>listed.getD i false) (i:=i) (CS:=CS) (k:=0) (Cl.hide _ σ0) (by
  intro j cs hj c hc hh
  simp only [Nat.zero_add]
  have hjl:=(List.getElem?_eq_some_iff.1 hj).1
  have hjp0:j<pre.length:=by have:=hH.clen;omega
  obtain ⟨y,hy,hjp⟩ : ∃y hy,pre[j]? = some (y,hy):=⟨_,_,by simp [hjp0];rfl⟩
  obtain ⟨k1,q,k2⟩:=hH.cin j cs c y hy hj hc hjp
  by_cases hji:i=j
  ·subst hji
   rw [hui];simp
  rcases And hLT hjp k2 hp hji with h1 | h1 | ⟨h1,h2e⟩
  ·have hij:=Ao4 hlt j i h1
   constructor
   ·intro h2
    have:=hcl j h2 i h1
    rw [hui] at this;cases this
   ·intro h2;omega
  ·have hji2:=Ao4 hlt i j h1
   exact ⟨fun _=>hji2,fun _=>hb j h1⟩
  ·have hho:N1 x.o hide=hide:=by unfold N1;rw [h2e]
   have:((N1 x.o hide).filter (ls.contains ·)).contains c.1=true:=by
    rw [hho]
    simp only [List.contains_iff_mem,List.mem_filter] at h1 k1 ⊢
    exact ⟨h1,by simpa using k1⟩
   rw [this] at hh;cases hh)
 rw [Nat.sub_zero] at key
 unfold Nv
 rw [Kc hv,K5 hH]
 exact (key s).imp id fun h=>h.1
theorem Arj (hH:Heads n0 P ops gv N Q ls σ0 pre H KS CS) {i:Nat} {hide:List Nat} : ∀s,Bb s H=true→look (Nv ls hide (CS.take i).flatten σ0) s = .top:=by
 intro s hs
 have hsub : ∀c∈(CS.take i).flatten,c∈CS.flatten:=by
  intro c hc
  obtain ⟨l,h1,h2⟩:=List.mem_flatten.1 hc
  exact List.mem_flatten.2 ⟨l,List.mem_of_mem_take h1,h2⟩
 have hv : ∀c∈((CS.take i).flatten.filter fun c => !(hide.filter (ls.contains ·)).contains c.1),∃U,look (Aaq (hide.filter (ls.contains ·)) σ0) c.1 = .val U:=by
  intro c hc
  obtain ⟨h1,h2⟩:=List.mem_filter.1 hc
  obtain ⟨U,hU⟩:=hH.cval c (hsub c h1)
  refine ⟨U,?_⟩
  rw [W7,hU]
  have h3:(hide.filter (ls.contains ·)).contains c.1=false:=by
   cases hcc:(hide.filter (ls.contains ·)).contains c.1 with
   | false=>rfl
   | true=>rw [hcc] at h2;cases h2
  rw [h3];simp [A.roots]
 unfold Nv
 rw [Kc hv]
 obtain ⟨j,q,hj⟩:=Jz hs
 refine Ane ?_ fun c hc=>Aoe hH (hsub c (List.mem_filter.1 hc).1) hs
 rw [W7,hH.top _ (List.mem_of_getElem? hj)]
 simp
theorem Asc {n i:Nat} {listed:Array Bool} {d:Nat} {r:A} {ks:List Nat} {cs:List (Nat×V×Nat)} (hi0:n0≤i) (hH:Heads n0 P ops gv N Q ls σ0 pre H KS CS) (hT:Re ops (F3 ops) 0 pre=true) (hLT:Agg (F3 ops) pre=true) (hpl:pre.length=n) (hl:H.length=n)
  (hlt : ∀(i:Nat) (o:Oper),ops[i]? = some o → ∀e∈o.after,Region.binds .any e=true→e.on<i)
  (hi:(H:List (Nat×A))[i]? = some (d,r)) (hki:KS[i]? = some ks) (hci:CS[i]? = some cs) (hsz:i<listed.size) (hun:listed.getD i false=false)
  (hcl : ∀k,listed.getD k false=true → ∀j∈(F3 ops).getD k [],listed.getD j false=true)
  (hroots:O9 H KS.flatten=true) (hroots2:Agm H CS.flatten=true) (hold : ∀t,Bb t H=true → ∀s,(look σ0 s).mapR (Ao t 0)=look σ0 s)
  (hr:r.mapR (Ao d 0)=r) {w O vals fp} (hs:Sim w O (look (mid listed KS H (bas listed CS σ0))) vals fp) :
  look (Ak d r (N4 ks (Gx cs (mid listed KS H (bas listed CS σ0)))))=look (mid (listed.setIfInBounds i true) KS H (bas (listed.setIfInBounds i true) CS σ0)):=by
 have hB:=Aee hH listed
 have hB2:=Aee hH (listed.setIfInBounds i true)
 have hd:look (mid listed KS H (bas listed CS σ0)) d = .top:=by
  rw [H7 hH hB listed hi,hun];simp
 have hset : ∀j,j≠i→(listed.setIfInBounds i true).getD j false=listed.getD j false:=fun j hj=>getD_set_ne false (Ne.symm hj)
 by_cases hcsn:cs=[]
 ·subst hcsn
  have e:look (bas (listed.setIfInBounds i true) CS σ0)=look (bas listed CS σ0):=by
   rw [K5 hH,K5 hH]
   refine Axf fun j cs' hj hc=> ?_
   rw [Nat.zero_add]
   by_cases hji:j=i
   ·subst hji
    rw [hci] at hj;cases hj
    exact absurd rfl hc
   ·exact hset j hji
  have:=Avf (B:=bas listed CS σ0) hi0 hH hT hi hki hsz hun hcl hroots (As7 hH hold listed) hB hr (hs.noref hd)
  show look (Ak d r (N4 ks (mid listed KS H (bas listed CS σ0))))=_
  rw [this]
  funext s
  rw [mid,mid,F5,F5,e]
 have hkn:ks=[]:=(hH.cks i ks cs hki hci).resolve_left hcsn
 subst hkn
 have hcf : ∀c∈cs,c∈CS.flatten:=fun c hc=>List.mem_flatten.2 ⟨cs,List.mem_of_getElem? hci,hc⟩
 have hvb : ∀c∈cs,∃U,look (bas listed CS σ0) c.1 = .val U:=by
  intro c hc
  rw [K5 hH]
  obtain ⟨U,hU⟩:=hH.cval c (hcf c hc)
  exact A03 hU
 have hvm : ∀c∈cs,∃U,look (mid listed KS H (bas listed CS σ0)) c.1 = .val U:=by
  intro c hc
  have:Bb c.1 H=false:=by
   cases hk:Bb c.1 H with
   | false=>rfl
   | true=>exact absurd rfl (Aoe hH (hcf c hc) hk)
  rw [Q6 this]
  exact hvb c hc
 have e1:look (Gx cs (bas listed CS σ0))=look (bas (listed.setIfInBounds i true) CS σ0):=by
  rw [Kc hvb,K5 hH,K5 hH]
  refine (A1r (Nat.zero_le i) (by simpa using hci) hun (by simp [hsz]) hset ?_).symm
  intro j cs' hj hc hij
  rw [Nat.zero_add] at hij ⊢
  cases hlj:listed.getD j false with
  | false=>rfl
  | true=>
    have hjl:=(List.getElem?_eq_some_iff.1 hj).1
    have hjp0:j<pre.length:=by have:=hH.clen;omega
    have hip0:i<pre.length:=by have:=(List.getElem?_eq_some_iff.1 hci).1;have:=hH.clen;omega
    obtain ⟨y,hy,hjp⟩ : ∃y hy,pre[j]? = some (y,hy):=⟨_,_,by simp [hjp0];rfl⟩
    obtain ⟨z,hz,hip⟩ : ∃z hz,pre[i]? = some (z,hz):=⟨_,_,by simp [hip0];rfl⟩
    obtain ⟨c',hc'⟩:=List.exists_mem_of_ne_nil _ hc
    obtain ⟨_,q,k2⟩:=hH.cin j cs' c' y hy hj hc' hjp
    rcases And hLT hjp k2 hip (by omega) with h1 | h1 | ⟨_,h1⟩
    ·have:=hcl j hlj i h1
     rw [hun] at this;cases this
    ·have:=Ao4 hlt i j h1
     omega
    ·obtain ⟨c0,hc0⟩:=List.exists_mem_of_ne_nil _ hcsn
     obtain ⟨_,q',k3⟩:=hH.cin i cs c0 _ _ hci hc0 hip
     rw [h1] at k3;cases k3
 have hmid:look (Gx cs (mid listed KS H (bas listed CS σ0)))=look (mid listed KS H (Gx cs (bas listed CS σ0))):=by
  have hB3 : ∀s,Bb s H=true→look (Gx cs (bas listed CS σ0)) s = .top:=fun s hs=>by rw [e1];exact hB2 s hs
  rw [Kc hvm]
  funext s
  by_cases hk:Bb s H=true
  ·obtain ⟨j,q,hj⟩:=Jz hk
   rw [Axc,H7 hH hB listed hj,H7 hH hB3 listed hj]
   intro c hc
   refine ⟨Aoe hH (hcf c hc) hk,?_⟩
   rw [H7 hH hB listed hj]
   split
   ·exact List.all_eq_true.1 (List.all_eq_true.1 hroots2 _ (List.mem_of_getElem? hj)) c (hcf c hc)
   ·rfl
  ·have hk':Bb s H=false:=by simpa using hk
   rw [Q6 hk',Kc hvb]
   exact Az8 (Q6 hk')
 have hold' : ∀t,Bb t H=true → ∀s,(look (Gx cs (bas listed CS σ0)) s).mapR (Ao t 0)=look (Gx cs (bas listed CS σ0)) s:=by
  intro t ht s
  rw [e1]
  exact As7 hH hold _ t ht s
 have hB3 : ∀s,Bb s H=true→look (Gx cs (bas listed CS σ0)) s = .top:=fun s hs=>by rw [e1];exact hB2 s hs
 have hnd : ∀s,(look (mid listed KS H (Gx cs (bas listed CS σ0))) s).mapR (Ao d 0)=look (mid listed KS H (Gx cs (bas listed CS σ0))) s:=by
  intro s
  by_cases hk:Bb s H=true
  ·obtain ⟨j,q,hj⟩:=Jz hk
   rw [H7 hH hB3 listed hj,←H7 hH hB listed hj]
   exact hs.noref hd s
  ·have hk':Bb s H=false:=by simpa using hk
   rw [Q6 hk']
   exact hold' d (Rc hi) s
 have h5:=Avf (B:=Gx cs (bas listed CS σ0)) (ks:=[]) hi0 hH hT hi hki hsz hun hcl hroots hold' hB3 hr hnd
 have h6:look (Ak d r (N4 [] (Gx cs (mid listed KS H (bas listed CS σ0)))))=look (Ak d r (N4 [] (mid listed KS H (Gx cs (bas listed CS σ0))))):=by
  simp only [N4]
  rw [Bl,Bl,hmid]
 rw [h6,h5]
 funext s
 rw [mid,mid,F5,F5,e1]
def cnt (n:Nat) (listed:Array Bool):Nat:=((List.range n).filter fun i => !listed.getD i true).length
theorem Aoz {n i:Nat} {listed:Array Bool} (hi:i<n) (hsz:i<listed.size) (hun:listed.getD i true=false):cnt n listed=cnt n (listed.setIfInBounds i true)+1:=by
 unfold cnt
 have h1 : ∀(l:List Nat),l.Nodup→i∈l→(l.filter fun j => !listed.getD j true).length=(l.filter fun j => !(listed.setIfInBounds i true).getD j true).length+1:=by
  intro l
  induction l with
  | nil=>intro _ h;cases h
  | cons x r ih=>
    intro hn hm
    have hn':=List.nodup_cons.1 hn
    by_cases hx:x=i
    ·subst hx
     have h2:(listed.setIfInBounds x true).getD x true=true:=by simp [hsz]
     have h3:(r.filter fun j => !listed.getD j true)=(r.filter fun j => !(listed.setIfInBounds x true).getD j true):=by
      apply List.filter_congr
      intro j hj
      rw [getD_set_ne true (by rintro rfl;exact hn'.1 hj)]
     rw [List.filter_cons_of_pos (by simp only [hun];rfl),List.filter_cons_of_neg (by simp only [h2];simp),h3]
     rfl
    ·have hm':i∈r:=by cases hm with
      | head=>exact absurd rfl hx
      | tail _ h=>exact h
     have:=ih hn'.2 hm'
     have h2:(listed.setIfInBounds i true).getD x true=listed.getD x true:=getD_set_ne true (Ne.symm hx)
     by_cases hp:listed.getD x true=true
     ·rw [List.filter_cons_of_neg (by simp only [hp];simp),List.filter_cons_of_neg (by simp only [h2,hp];simp)];exact this
     ·have hp':listed.getD x true=false:=by simpa using hp
      rw [List.filter_cons_of_pos (by simp only [hp'];rfl),List.filter_cons_of_pos (by simp only [h2,hp'];rfl),List.length_cons,List.length_cons,this]
 exact h1 _ List.nodup_range (List.mem_range.2 hi)
theorem Awc (v:Value) (k:Nat):(∃u,Instr.extract v k=pure u) ∨ ∃s,Instr.extract v k=stuck s:=by
 unfold Instr.extract
 split
 ·split
  ·exact .inl ⟨_,rfl⟩
  exact .inr ⟨_,rfl⟩
 exact .inr ⟨_,rfl⟩
theorem Aqp {i:Nat} {o:Oper} {x:Operand} {k:Nat} (hi:ops[i]? = some o) (hop:o.op = .extract x k) (hg:o.guard=none) {next:Act→World→Prop} {a:Act} {w:World}
  (h:wpOp P ops Q i next a w) : ∃v,Yields P ops o v a∧next (a.put o.dst v) w:=by
 unfold wpOp at h
 rw [hi] at h
 have hw:Region.wanted o (yielded ops a.tmps)=true:=by simp [Region.wanted,hg]
 simp only [hw,if_true] at h
 have he:execOp a.eval o=Next.value <$> Instr.extract (a.eval x) k:=by simp [execOp,hop]
 rcases Awc (a.eval x) k with ⟨u,hu⟩ | ⟨s,hu⟩
 ·rw [hu] at he
  have hr : ∀w,(execOp a.eval o).run P w = .ok (.value u) w:=fun w=>by rw [he];rfl
  refine ⟨u,.inl ⟨hw,hr⟩,?_⟩
  rcases h with h | h
  ·unfold Oper.wp at h
   rw [hr w] at h
   exact h
  exfalso
  have h1:noRoomEvent∈(execOp a.eval o).events P w #[]:=h.1.1
  have h2:(execOp a.eval o).events P w #[] = #[]:=by rw [he];rfl
  rw [h2] at h1
  simp at h1
 rw [hu] at he
 exfalso
 rcases h with h | h
 ·unfold Oper.wp at h
  rw [he] at h
  exact h
 have h1:noRoomEvent∈(execOp a.eval o).events P w #[]:=h.1.1
 have h2:(execOp a.eval o).events P w #[] = #[]:=by rw [he];rfl
 rw [h2] at h1
 simp at h1
theorem Aq1 {n:Nat} {listed:Array Bool} (hs:Azq ops n=true) (hc:Region.chainB .any ops n=true) (hn:n<ops.size) (inv:HeadInv .any ops n listed)
  (hlt : ∀(i:Nat) (o:Oper),ops[i]? = some o → ∀e∈o.after,Region.binds .any e=true→e.on<i)
  (hno:¬ ∃i,i<n∧A2h ops i=true∧i∈Region.ready .any ops listed) {k:Nat} (hk:k<n) (hku:listed.getD k true=false) : ∀t,n≤t→t∉Region.ready .any ops listed:=by
 intro t ht hr
 obtain ⟨_,ot,hot,hall⟩:=mem_ready.1 hr
 have htlt:t<ops.size:=(Array.getElem?_eq_some_iff.1 hot).1
 by_cases htn:t=n
 ·subst htn
  have hb:=Ij inv hlt t ot hot hall
  have h1:=List.all_eq_true.1 hs k (List.mem_range.2 hk)
  simp only [Bool.or_eq_true,Bool.and_eq_true] at h1
  rcases h1 with h1 | ⟨h1,h2⟩
  ·have:=hb k (by simpa using h1)
   rw [getD_both hku] at this;cases this
  cases hok:ops[k]? with
  | none=>rw [hok] at h2;cases h2
  | some o=>
    rw [hok] at h2
    refine hno ⟨k,hk,h1,mem_ready.2 ⟨hku,o,hok,fun e he hbd=> ?_⟩⟩
    have h3:=List.all_eq_true.1 h2 e (by simpa using he)
    simp only [Bool.or_eq_true,Bool.not_eq_true'] at h3
    rcases h3 with h3 | h3
    ·rw [hbd] at h3;cases h3
    ·exact hb e.on (by simpa using h3)
 have h1:=List.all_eq_true.1 hc t (List.mem_range.2 htlt)
 simp only [Bool.or_eq_true,decide_eq_true_eq] at h1
 rcases h1 with h1 | h1
 ·omega
 obtain ⟨o',ho',e,he,hb,hon⟩:=Region.waitsFor_spec h1
 have:o'=ot:=Option.some.inj (ho'.symm.trans hot)
 subst this
 have h2:=hall e he hb
 rw [hon,getD_both (inv.tail (t-1) (by omega) (by omega))] at h2
 cases h2
theorem Axe {n:Nat} (hH:Heads n0 P ops gv N Q ls σ0 pre H KS CS) (hKT:Aky ops (F3 ops) pre=true) (hLT:Agg (F3 ops) pre=true) (hroots:O9 H KS.flatten=true) (hroots2:Agm H CS.flatten=true) (hold : ∀t,Bb t H=true → ∀s,(look σ0 s).mapR (Ao t 0)=look σ0 s) (hl:H.length=n) (hpl:pre.length=n) (hT:Re ops (F3 ops) 0 pre=true)
  (hlt : ∀(i:Nat) (o:Oper),ops[i]? = some o → ∀e∈o.after,Region.binds .any e=true→e.on<i)
  (hn:n≤ops.size) (htail:n<ops.size→Azq ops n=true∧Region.chainB .any ops n=true) (hQp : ∀c a w,¬Q (.panic c) a w) (g:Nat) :
  ∀(m:Nat) (listed:Array Bool) (a:Act) (w:World) O vals fp,cnt n listed=m→(∀i,i<n0→listed.getD i false=true)→HeadInv .any ops n listed→Ok (mid listed KS H (bas listed CS σ0)) a w O gv N vals fp →
    (∀listed' a' w' O' vals' fp',HeadInv .any ops n listed'→(∀i,i<n→listed'.getD i false=true)→Ok (Eg KS.flatten H++Gx CS.flatten σ0) a' w' O' gv N vals' fp'→Mv w O (Sof fp) w' O' (Sof fp')→wpAny P .any ops Q g listed' a' w') →
    wpAny P .any ops Q (m+g) listed a w:=by
 intro m
 induction m with
 | zero=>
   intro listed a w O vals fp hc hl0 inv ho hf
   have hall : ∀i,i<n→listed.getD i false=true:=by
    intro i hi
    cases hu:listed.getD i false with
    | true=>rfl
    | false=>
      have h1:listed.getD i true=false:=getD_in (by rw [inv.size];omega) hu
      have h2:i∈(List.range n).filter fun i => !listed.getD i true:=List.mem_filter.2 ⟨List.mem_range.2 hi,by simp only [h1];rfl⟩
      unfold cnt at hc
      rw [List.length_eq_zero_iff] at hc
      rw [hc] at h2;cases h2
   rw [Nat.zero_add]
   refine hf listed a w O vals fp inv hall (ho.congr ?_) (Mv.refl _ _ _)
   have hkd : ∀s,kd listed KS s=KS.flatten.contains s:=by
    intro s
    rw [Bool.eq_iff_iff,Ade]
    simp only [List.contains_iff_mem,List.mem_flatten]
    constructor
    ·rintro ⟨i,ks,hk,_,hs⟩;exact ⟨ks,List.mem_of_getElem? hk,hs⟩
    ·rintro ⟨ks,hk,hs⟩
     obtain ⟨i,hi⟩:=List.mem_iff_getElem?.1 hk
     have h1:=(List.getElem?_eq_some_iff.1 hi).1
     exact ⟨i,ks,hi,hall i (by have:=hH.klen;omega),hs⟩
   have hbe:look (Gx CS.flatten σ0)=look (bas listed CS σ0):=by
    rw [Kc hH.cval,K5 hH]
    refine (A1y fun j hj=> ?_).symm
    rw [Nat.zero_add]
    exact hall j (by have:=hH.clen;omega)
   funext s
   rw [F5 (Eg KS.flatten H),Z5]
   by_cases hk:Bb s H=true
   ·obtain ⟨j,q,hj⟩:=Jz hk
    rw [H7 hH (Aee hH listed) listed hj,hk,hkd]
    have hlj:=hall j (by have:=(List.getElem?_eq_some_iff.1 hj).1;omega)
    cases hc:KS.flatten.contains s with
    | true=>
      simp only [hlj,Bool.true_eq_false,and_false,if_false,Bool.not_true,Bool.and_false,Bool.false_eq_true]
      rw [hbe];exact (Aee hH listed s hk).symm
    | false=>
      simp only [hlj,and_self,if_true,Bool.not_false,Bool.and_true]
      rw [Abm _ _ _ hc]
      exact (Au6 hH.kn hj).symm
   ·have hk':Bb s H=false:=by simpa using hk
    rw [Q6 hk',hk',hbe];simp
 | succ m ih=>
   intro listed a w O vals fp hc hl0 inv ho hf
   have hex : ∃i,i<n∧listed.getD i true=false:=by
    unfold cnt at hc
    match hm:(List.range n).filter fun i => !listed.getD i true with
    | []=>rw [hm] at hc;simp at hc
    | i::r=>
      have h2:i∈(List.range n).filter fun i => !listed.getD i true:=by rw [hm];simp
      obtain ⟨h3,h4⟩:=List.mem_filter.1 h2
      exact ⟨i,List.mem_range.1 h3,by simpa using h4⟩
   have hmin : ∃i,i<n∧listed.getD i true=false ∧ ∀j,j<i→listed.getD j true≠false:=by
    obtain ⟨i,h1,h2⟩:=hex
    have : ∀k i,i≤k→i<n→listed.getD i true=false → ∃i,i<n∧listed.getD i true=false ∧ ∀j,j<i→listed.getD j true≠false:=by
     intro k
     induction k with
     | zero=>intro i hk hi hu;exact ⟨i,hi,hu,fun j hj=>by omega⟩
     | succ k ih=>
       intro i hk hi hu
       by_cases h : ∃j,j<i∧listed.getD j true=false
       ·obtain ⟨j,hj,hju⟩:=h;exact ih j (by omega) (by omega) hju
       ·exact ⟨i,hi,hu,fun j hj hju=>h ⟨j,hj,hju⟩⟩
    exact this i i (Nat.le_refl _) h1 h2
   have hcl : ∀k,listed.getD k false=true → ∀j∈(F3 ops).getD k [],listed.getD j false=true:=by
    intro k hk j hj
    by_cases hks:k<ops.size
    ·exact Ij inv hlt k ops[k] (by simp [hks]) (fun e he hb=>inv.closed k ops[k] (by simp [hks]) hk e he hb) j hj
    ·have:listed.getD k false=false:=by
      have hz:listed.size=ops.size:=inv.size
      simp [Array.getD,show ¬k<listed.size by omega]
     rw [this] at hk;cases hk
   rw [show m+1+g=(m+g)+1 by omega]
   by_cases hfl : ∃i,i<n∧A2h ops i=true∧i∈Region.ready .any ops listed
   ·obtain ⟨i,hin,hf1,hr⟩:=hfl
    obtain ⟨hun,o,hoi,hall⟩:=mem_ready.1 hr
    unfold A2h at hf1
    rw [hoi] at hf1
    simp only [Bool.and_eq_true] at hf1
    obtain ⟨⟨⟨hop,hg⟩,hns⟩,hfree⟩:=hf1
    have hop' : ∃x k,o.op = .extract x k:=by
     split at hop
     ·exact ⟨_,_,by assumption⟩
     ·cases hop
    obtain ⟨x',k',hop'⟩:=hop'
    have hg':o.guard=none:=by simpa using hg
    have hHi:(H:List (Nat×A))[i]? = some (H:List (Nat×A))[i]:=by simp [hl,hin]
    obtain ⟨d,r,hdr⟩ : ∃d r,(H:List (Nat×A))[i]? = some (d,r):=⟨_,_,hHi⟩
    obtain ⟨x,hide,hp⟩ : ∃x hide,pre[i]? = some (x,hide):=⟨_,_,by simp [hpl,hin];rfl⟩
    obtain ⟨ks,hki⟩ : ∃ks,KS[i]? = some ks:=⟨KS[i]'(by have:=hH.klen;omega),by simp [show i<KS.length by have:=hH.klen;omega]⟩
    obtain ⟨cs,hci⟩ : ∃cs,CS[i]? = some cs:=⟨CS[i]'(by have:=hH.clen;omega),by simp [show i<CS.length by have:=hH.clen;omega]⟩
    have hi0:n0≤i:=by
     rcases Nat.lt_or_ge i n0 with h | h
     ·have:=hl0 i h;rw [getD_both hun] at this;cases this
     ·exact h
    have hwp:=hH.ok i d r ks cs x hide hi0 hdr hki hci hp (mid listed KS H (bas listed CS σ0)) a w O vals fp
     (fun a' w' => ∃O' vals' fp',Ok (Ak d r (N4 ks (Gx cs (mid listed KS H (bas listed CS σ0))))) a' w' O' gv N vals' fp'∧Mv w O (Sof fp) w' O' (Sof fp'))
     (Ay6 (n:=n) hH hT hKT hpl hp hdr (Ij inv hlt i o hoi hall) hcl (getD_both hun) (Arj hH) (Av1 hH hLT hpl hl hlt hp (Ij inv hlt i o hoi hall) hcl (getD_both hun))) ho
     (fun a' w' O' vals' fp' h1 h2=>⟨O',vals',fp',h1,h2⟩)
    obtain ⟨v,hy,O',vals',fp',ho',hm'⟩:=Aqp hoi hop' hg' hwp
    have hput:=Asc hi0 hH hT hLT hpl hl hlt hdr hki hci (by rw [inv.size];omega) (getD_both hun) hcl hroots hroots2 hold (hH.idem _ (List.mem_of_getElem? hdr)) ho.sim
    refine wpAny_first hoi (Region.noSelect_spec hns) (fun c a w hq=>absurd hq (hQp _ _ _)) (m+g) listed a w
     (fun j oj hj hne hju hno=>by
      have h1:=List.all_eq_true.1 hfree j (List.mem_range.2 (Array.getElem?_eq_some_iff.1 hj).1)
      simp only [hj,Bool.or_eq_true,beq_iff_eq] at h1
      rcases h1 with (h1 | h1) | h1 | h1
      ·exact absurd h1 hne
      ·have:=Ij inv hlt i o hoi hall j (by simpa using h1)
       rw [getD_both hju] at this;cases this
      ·obtain ⟨e,he,hb⟩:=Array.any_eq_true'.1 h1
       simp only [Bool.and_eq_true,beq_iff_eq] at hb
       exact absurd hb.2 (hno e he hb.1)
      ·exact h1) hr hy ?_
    refine ih _ (a.put o.dst v) w O' vals' fp' ?_ (fun k hk=>getD_set_true (hl0 k hk)) (inv.set hr hin) (ho'.congr hput) fun l2 a2 w2 O2 vals2 fp2 h1 h2 h3 h4=>hf l2 a2 w2 O2 vals2 fp2 h1 h2 h3 (hm'.trans h4)
    have:=Aoz hin (by rw [inv.size];omega) hun
    omega
   refine ⟨fun h0=> ?_,?_⟩
   ·obtain ⟨i,hi,hu,hj⟩:=hmin
    have his:i<ops.size:=by omega
    have:i∈Region.ready .any ops listed:=mem_ready.2 ⟨hu,ops[i],by simp [his],fun e he hb=>by
     have h1:=hlt i ops[i] (by simp [his]) e he hb
     have h2:=hj _ h1
     cases hh:listed.getD e.on false with
     | true=>rfl
     | false=>exact absurd (getD_in (by rw [inv.size];omega) hh) h2⟩
    rw [h0] at this;cases this
   ·intro i hi
    obtain ⟨hun,o,hoi,hall⟩:=mem_ready.1 hi
    have his:i<ops.size:=(Array.getElem?_eq_some_iff.1 hoi).1
    have hin:i<n:=by
     rcases Nat.lt_or_ge i n with h | h
     ·exact h
     ·obtain ⟨k,hk,hku⟩:=hex
      have ht:=htail (by omega)
      exact absurd hi (Aq1 ht.1 ht.2 (by omega) inv hlt hfl hk hku i h)
    have hHi:(H:List (Nat×A))[i]? = some (H:List (Nat×A))[i]:=by simp [hl,hin]
    obtain ⟨d,r,hdr⟩ : ∃d r,(H:List (Nat×A))[i]? = some (d,r):=⟨_,_,hHi⟩
    obtain ⟨x,hide,hp⟩ : ∃x hide,pre[i]? = some (x,hide):=⟨_,_,by simp [hpl,hin];rfl⟩
    obtain ⟨ks,hki⟩ : ∃ks,KS[i]? = some ks:=⟨KS[i]'(by have:=hH.klen;omega),by simp [show i<KS.length by have:=hH.klen;omega]⟩
    obtain ⟨cs,hci⟩ : ∃cs,CS[i]? = some cs:=⟨CS[i]'(by have:=hH.clen;omega),by simp [show i<CS.length by have:=hH.clen;omega]⟩
    have hi0:n0≤i:=by
     rcases Nat.lt_or_ge i n0 with h | h
     ·have:=hl0 i h;rw [getD_both hun] at this;cases this
     ·exact h
    refine hH.ok i d r ks cs x hide hi0 hdr hki hci hp (mid listed KS H (bas listed CS σ0)) a w O vals fp _ (Ay6 (n:=n) hH hT hKT hpl hp hdr (Ij inv hlt i o hoi hall) hcl (getD_both hun) (Arj hH) (Av1 hH hLT hpl hl hlt hp (Ij inv hlt i o hoi hall) hcl (getD_both hun))) ho ?_
    intro a' w' O' vals' fp' ho' hm'
    have hput:=Asc hi0 hH hT hLT hpl hl hlt hdr hki hci (by rw [inv.size];omega) (getD_both hun) hcl hroots hroots2 hold (hH.idem _ (List.mem_of_getElem? hdr)) ho.sim
    refine ih _ a' w' O' vals' fp' ?_ (fun k hk=>getD_set_true (hl0 k hk)) (inv.set hi hin) (ho'.congr hput) fun l2 a2 w2 O2 vals2 fp2 h1 h2 h3 h4=>hf l2 a2 w2 O2 vals2 fp2 h1 h2 h3 (hm'.trans h4)
    have:=Aoz hin (by rw [inv.size];omega) hun
    omega
theorem Rf (size:Nat) : ∀(m:Nat),(Bg size m).size=size ∧ ∀j,(Bg size m).getD j false=(decide (j<m)&&decide (j<size)):=by
 have hfold : ∀(m:Nat) (l:Array Bool),((List.range m).foldl (fun l i=>l.setIfInBounds i true) l).size=l.size ∧ ∀j,((List.range m).foldl (fun l i=>l.setIfInBounds i true) l).getD j false=((decide (j<m)&&decide (j<l.size)) || l.getD j false):=by
  intro m
  induction m with
  | zero=>intro l;simp
  | succ m ih=>
    intro l
    rw [List.range_succ,List.foldl_append]
    simp only [List.foldl_cons,List.foldl_nil]
    obtain ⟨h1,h2⟩:=ih l
    refine ⟨by simp [h1],fun j=> ?_⟩
    by_cases hj:m=j
    ·subst hj
     by_cases hs:m<l.size
     ·have:m<((List.range m).foldl (fun l i=>l.setIfInBounds i true) l).size:=by rw [h1];exact hs
      simp [Array.getD,this,hs]
     ·have h3:¬m<((List.range m).foldl (fun l i=>l.setIfInBounds i true) l).size:=by rw [h1];exact hs
      simp [Array.getD,h3,hs]
    ·rw [getD_set_ne false hj,h2]
     congr 2
     simp;omega
 intro m
 obtain ⟨f1,f2⟩:=hfold m (Array.replicate size false)
 refine ⟨by unfold Bg;rw [f1];simp,fun j=> ?_⟩
 unfold Bg
 rw [f2,getD_replicate_false];simp
theorem Avj (size m:Nat):(Bg size m).setIfInBounds m true=Bg size (m+1):=by
 unfold Bg
 rw [List.range_succ,List.foldl_append];rfl
theorem A4e {n m:Nat} (hm:m≤n) (_hn:n≤ops.size) (hlt : ∀(i:Nat) (o:Oper),ops[i]? = some o → ∀e∈o.after,Region.binds .any e=true→e.on<i):HeadInv .any ops n (Bg ops.size m):=by
 obtain ⟨h1,h2⟩:=Rf ops.size m
 refine ⟨h1,fun j oj hj hl e he hb=> ?_,fun t ht hts=> ?_⟩
 ·rw [h2] at hl ⊢
  simp only [Bool.and_eq_true,decide_eq_true_eq] at hl ⊢
  have:=hlt j oj hj e he hb
  omega
 refine getD_in (by rw [h1];exact hts) ?_
 rw [h2]
 simp;omega
theorem A3o {size n:Nat} (hn:n≤size) : ∀m,m≤n→cnt n (Bg size m)+m=n:=by
 intro m
 induction m with
 | zero=>
   intro _
   unfold cnt
   rw [List.filter_eq_self.2]
   ·simp
   ·intro i hi
    have:=List.mem_range.1 hi
    have h3:=(Rf size 0).2 i
    have:(Bg size 0).getD i true=false:=getD_in (by rw [(Rf size 0).1];omega) (by rw [h3];simp)
    simp [this]
 | succ m ih=>
   intro hm
   have h1:=ih (by omega)
   have h3:=(Rf size m).2 m
   have h4:(Bg size m).getD m true=false:=getD_in (by rw [(Rf size m).1];omega) (by rw [h3];simp)
   have:=Aoz (n:=n) (i:=m) (listed:=Bg size m) (by omega) (by rw [(Rf size m).1];omega) h4
   rw [Avj] at this
   omega
theorem Anz {n0:Nat} {σ:St} {a:Act} {w:World} {O vals fp} {post:List G} {K:St→Prop} (hf:Aku P N ops pre post=true) (hn0:n0≤pre.length) (ho:Ok σ a w O gv N vals fp) (hQp : ∀c a w,¬Q (.panic c) a w) (hdum:Adf n0 σ=true)
  (h:Gg P (Tw pre) σ (pre.drop n0) (Wg n0) (List.replicate n0 []) (List.replicate n0 []) fun σ'=>Cu P post K σ') (hn:Jq w O gv N fp K (Q .normal)):wpAny P .any ops Q (ops.size-n0) (Bg ops.size n0) a w:=by
 simp only [Aku,Bool.and_eq_true] at hf
 obtain ⟨⟨⟨⟨⟨⟨⟨hgs,hmix⟩,hT⟩,hKT⟩,hlt⟩,htail⟩,hseq⟩,hLT⟩:=hf
 have hlt' : ∀(i:Nat) (o:Oper),ops[i]? = some o → ∀e∈o.after,Region.binds .any e=true→e.on<i:=by
  intro i o hi e he hb
  have hm:(o,i)∈ops.toList.zipIdx:=by
   rw [List.mem_iff_getElem?]
   exact ⟨i,by simp [List.getElem?_zipIdx,hi]⟩
  have h1:=List.all_eq_true.1 (List.all_eq_true.1 hlt _ hm) e (by simpa using he)
  simp only [Bool.or_eq_true,Bool.not_eq_true',decide_eq_true_eq] at h1
  rcases h1 with h1 | h1
  ·rw [hb] at h1;cases h1
  ·exact h1
 have split : ∀(xs ys:List G) (os:List Oper),C8 P N ops (xs++ys) os=true→C8 P N ops xs (os.take xs.length)=true∧C8 P N ops ys (os.drop xs.length)=true∧xs.length+ys.length=os.length:=by
  intro xs
  induction xs with
  | nil=>
    intro ys os h
    refine ⟨by simp [C8],by simpa using h,?_⟩
    have : ∀(ys:List G) (os:List Oper),C8 P N ops ys os=true→ys.length=os.length:=by
     intro ys
     induction ys with
     | nil=>intro os h;cases os<;>simp [C8] at h ⊢
     | cons y ys ih=>intro os h;cases os with
       | nil=>simp [C8] at h
       | cons o os=>simp only [C8,Bool.and_eq_true] at h;simp [ih os h.2]
    simpa using this ys os h
  | cons x xs ih=>
    intro ys os h
    cases os with
    | nil=>simp [C8] at h
    | cons o os=>
      simp only [List.cons_append,C8,Bool.and_eq_true] at h
      obtain ⟨h1,h2,h3⟩:=ih ys os h.2
      exact ⟨by simp [C8,h.1,h1],by simpa using h2,by simp;omega⟩
 obtain ⟨hpre,hpost,hlen⟩:=split _ _ _ hgs
 simp only [List.length_map,Array.length_toList] at hpre hpost hlen
 have hn':pre.length≤ops.size:=by omega
 have hdat : ∀(i s:Nat) (r:A),(Wg n0:List (Nat×A))[i]? = some (s,r)→i<n0∧s=1000000+i∧r = .top:=by
  intro i s r hi
  unfold Wg at hi
  rw [List.getElem?_map] at hi
  obtain ⟨k,h1,h2⟩:=Option.map_eq_some_iff.1 hi
  have h3:=(List.getElem?_eq_some_iff.1 h1).1
  simp at h3
  simp [h3] at h1
  subst h1
  cases h2
  exact ⟨h3,rfl,rfl⟩
 have hdl:(Wg n0).length=n0:=by simp [Wg]
 have hkn : ∀m,kn (Wg m)=true:=by
  have key : ∀m,Bb (1000000+m) (Wg m)=false ∧ ∀k,m≤k→Bb (1000000+k) (Wg m)=false:=by
   intro m
   have : ∀k,m≤k→Bb (1000000+k) (Wg m)=false:=by
    intro k hk
    cases hc:Bb (1000000+k) (Wg m) with
    | false=>rfl
    | true=>
      obtain ⟨i,r,hi⟩:=Jz hc
      unfold Wg at hi
      rw [List.getElem?_map] at hi
      obtain ⟨q,h1,h2⟩:=Option.map_eq_some_iff.1 hi
      have h3:=(List.getElem?_eq_some_iff.1 h1).1
      simp at h3
      simp [h3] at h1
      subst h1
      have:=(Prod.mk.inj h2).1
      omega
   exact ⟨this m (Nat.le_refl _),this⟩
  intro m
  induction m with
  | zero=>rfl
  | succ m ih=>
    have e:Wg (m+1)=Wg m++[(1000000+m,.top)]:=by simp [Wg,List.range_succ]
    rw [e]
    exact Avp ih (key m).1
 have hsz:=fun i (hi:i<n0)=>List.all_eq_true.1 hdum i (List.mem_range.2 hi)
 have htop0 : ∀e∈Wg n0,look σ e.1 = .top:=by
  intro e he
  obtain ⟨i,hi⟩:=List.mem_iff_getElem?.1 he
  obtain ⟨s,r⟩:=e
  obtain ⟨h1,rfl,_⟩:=hdat i s r hi
  have:=hsz i h1
  unfold Av0 at this
  split at this
  ·assumption
  ·cases this
 obtain ⟨H,KS,CS,hH,hHl,⟨hroots,hroots2⟩,hK⟩:=Aw6 (n0:=n0) (P:=P) (ops:=ops) (gv:=gv) (N:=N) (Q:=Q) (σ0:=σ) (all:=pre) hpre (fun j hj=>by
   simp at hj;simp [List.getElem?_take];omega) (pre.drop n0) (Wg n0) (List.replicate n0 []) (List.replicate n0 []) _ h (by rw [hdl,List.length_drop];omega) (fun j=>by rw [hdl,List.getElem?_drop]) (by rw [hdl];exact Nat.le_refl _)
   ⟨by rw [hdl];exact hn0,by simp [hdl],by simp [hdl],(fun i ks cs hk _=>by
    obtain ⟨h2,h3⟩:=List.getElem?_eq_some_iff.1 hk
    simp at h3
    exact .inr h3),(fun c hc=>by
    obtain ⟨l,h1,h2⟩:=List.mem_flatten.1 hc
    rw [List.eq_of_mem_replicate h1] at h2
    cases h2),(fun i cs c x hide hk hc _=>by
    obtain ⟨h2,h3⟩:=List.getElem?_eq_some_iff.1 hk
    simp at h3
    subst h3
    cases hc),(fun j cs _ hk=>by
    obtain ⟨h2,h3⟩:=List.getElem?_eq_some_iff.1 hk
    simp at h3
    exact h3),hkn n0,htop0,(by
    intro e he
    obtain ⟨i,hi⟩:=List.mem_iff_getElem?.1 he
    obtain ⟨s,r⟩:=e
    obtain ⟨_,_,rfl⟩:=hdat i s r hi
    rfl),(fun i d r _ hi=>(hdat i d r hi).2.2),(fun i d r h0 hi=>by have:=(hdat i d r hi).1;omega),(fun i ks x hide hk hp=>by
    have h1:=(List.getElem?_eq_some_iff.1 hk)
    obtain ⟨h2,h3⟩:=h1
    simp at h3
    subst h3
    rfl),(fun i d r ks cs x hide h0 hi _ _ _=>by have:=(hdat i d r hi).1;omega)⟩
 have hold : ∀t,Bb t H=true → ∀s,(look σ s).mapR (Ao t 0)=look σ s:=by
  intro t ht s
  obtain ⟨j,q,hj⟩:=Jz ht
  exact ho.sim.noref (hH.top _ (List.mem_of_getElem? hj)) s
 obtain ⟨hl1,hl2⟩:=Rf ops.size n0
 have hmid:look σ=look (mid (Bg ops.size n0) KS H (bas (Bg ops.size n0) CS σ)):=by
  have hbn:look (bas (Bg ops.size n0) CS σ)=look σ:=by
   rw [K5 hH]
   refine Ai1 fun j cs hj hc=> ?_
   rw [Nat.zero_add,hl2]
   have:n0≤j:=by
    rcases Nat.lt_or_ge j n0 with h1 | h1
    ·exact absurd (hH.dumc j cs h1 hj) hc
    ·exact h1
   simp;omega
  funext s
  by_cases hk:Bb s H=true
  ·obtain ⟨j,q,hj⟩:=Jz hk
   rw [H7 hH (Aee hH _) _ hj,hH.top _ (List.mem_of_getElem? hj)]
   split
   ·rename_i hc
    have:j<n0:=by
     have:=hc.1
     rw [hl2] at this
     simp at this;exact this.1
    exact (hH.dum j s q this hj).symm
   ·rfl
  ·rw [Q6 (by simpa using hk),hbn]
 have hcn:=A3o (size:=ops.size) hn' n0 hn0
 have main:=Axe (Q:=Q) hH hKT hLT hroots hroots2 hold hHl rfl hT hlt' hn' (by
  intro hlt2
  simp only [Bool.or_eq_true,Bool.and_eq_true,decide_eq_true_eq] at htail
  rcases htail with h1 | h1
  ·omega
  ·exact ⟨h1.1.2,h1.2⟩) hQp (ops.size-pre.length) _ (Bg ops.size n0) a w O vals fp rfl (fun i hi=>by rw [hl2];simp;omega) (A4e hn0 hn' hlt') (ho.congr hmid) (by
   intro l2 a2 w2 O2 vals2 fp2 inv2 hall2 ho2 hm2
   have el:l2=Bg ops.size pre.length:=by
    obtain ⟨f1,f2⟩:=Rf ops.size pre.length
    apply Array.ext
    ·rw [inv2.size,f1]
    ·intro j hj1 hj2
     have e1:l2.getD j false=l2[j]:=by simp [Array.getD,hj1]
     have e2:(Bg ops.size pre.length).getD j false=(Bg ops.size pre.length)[j]:=by simp [Array.getD,hj2]
     rw [←e1,←e2,f2]
     have hjs:j<ops.size:=by rw [←inv2.size];exact hj1
     by_cases hjn:j<pre.length
     ·rw [hall2 j hjn];simp [hjn,hjs]
     ·rw [getD_both (inv2.tail j (by omega) hjs)];simp [hjn]
   subst el
   have hdl2:(ops.toList.drop pre.length).length=ops.size-pre.length:=by simp
   rw [←hdl2]
   refine wpAny_of_seq (ops.toList.drop pre.length) pre.length _ a2 w2 (fun j=>by simp [List.getElem?_drop]) (by rw [hdl2];exact hseq) ?_
   exact Af9 hpost ho2 hK (Jq.pre hn hm2))
 rw [show ops.size-n0=cnt pre.length (Bg ops.size n0)+(ops.size-pre.length) by omega]
 exact main
theorem Agn {post:List G} (hf:Aku P N ops pre post=true):P.follows .mixedOrders=true∧C8 P N ops (pre.map (·.1)++post) ops.toList=true ∧ ∀(i:Nat) (o:Oper),ops[i]? = some o → ∀e∈o.after,Region.binds .any e=true→e.on<i:=by
 simp only [Aku,Bool.and_eq_true] at hf
 obtain ⟨⟨⟨⟨⟨⟨⟨hgs,hmix⟩,hT⟩,hKT⟩,hlt⟩,htail⟩,hseq⟩,hLT⟩:=hf
 refine ⟨hmix,hgs,?_⟩
 intro i o hi e he hb
 have hm:(o,i)∈ops.toList.zipIdx:=by
  rw [List.mem_iff_getElem?]
  exact ⟨i,by simp [List.getElem?_zipIdx,hi]⟩
 have h1:=List.all_eq_true.1 (List.all_eq_true.1 hlt _ hm) e (by simpa using he)
 simp only [Bool.or_eq_true,Bool.not_eq_true',decide_eq_true_eq] at h1
 rcases h1 with h1 | h1
 ·rw [hb] at h1;cases h1
 exact h1
theorem Aug {id:Nat} {σ:St} {a:Act} {w:World} {O vals fp} {post:List G} {K:St→Prop} (hf:Aku P N ops pre post=true) (ho:Ok σ a w O gv N vals fp) (hQp : ∀c a w,¬Q (.panic c) a w)
  (h:Gg P (Tw pre) σ pre [] [] [] fun σ'=>Cu P post K σ') (hn:Jq w O gv N fp K (Q .normal)):(Code.region id ops true).wp P Q a w:=by
 refine wp_region_any (Agn hf).1 ?_
 have hheap:Mv w O (Sof fp) { w with drawn:=w.drawn+1 } O (Sof fp):=⟨rfl,rfl,rfl,Nat.le_refl _,fun _ _ _=>⟨rfl,.rfl⟩,fun _ h=> .inl h⟩
 have ho1:Ok σ a { w with drawn:=w.drawn+1 } O gv N vals fp:=ho.world (fun b hb _=>⟨rfl,hb⟩) (fun b ⟨s,hs⟩=>⟨rfl,(ho.sim.fpO s b hs).1⟩)
 exact Anz (n0:=0) hf (Nat.zero_le _) ho1 hQp rfl h (Jq.pre hn hheap)
theorem Azj {n0:Nat} (htk : ∀i,i<n0→A4h ops i=true) (hns:Region.noSelect ops=true) (hlt : ∀(i:Nat) (o:Oper),ops[i]? = some o → ∀e∈o.after,Region.binds .any e=true→e.on<i) (hQp : ∀c a w,¬Q (.panic c) a w) (g:Nat) :
  ∀(gs:List G) (i:Nat) (σ:St) (a:Act) (w:World) O vals fp (K:St→Prop),i+gs.length=n0→(∀j x,gs[j]? = some x → ∃o,ops[i+j]? = some o∧Pu P N ops x o=true)→(∀x∈gs,∃d y,x=⟨none,.mov d y⟩) →
    Ok σ a w O gv N vals fp→Cu P gs K σ →
    (∀σ1 a1 w1 O1 vals1 fp1,Ok σ1 a1 w1 O1 gv N vals1 fp1→K σ1→Mv w O (Sof fp) w1 O1 (Sof fp1)→wpAny P .any ops Q g (Bg ops.size n0) a1 w1)→wpAny P .any ops Q (gs.length+g) (Bg ops.size i) a w:=by
 intro gs
 induction gs with
 | nil=>
   intro i σ a w O vals fp K hi _ _ ho h hk
   have:i=n0:=by simpa using hi
   subst this
   rw [List.length_nil,Nat.zero_add]
   exact hk σ a w O vals fp ho h (Mv.refl _ _ _)
 | cons x r ih=>
   intro i σ a w O vals fp K hi hfit hmv ho h hk
   obtain ⟨d,y,rfl⟩:=hmv x (by simp)
   obtain ⟨o,hoi,hfg⟩:=hfit 0 _ rfl
   rw [Nat.add_zero] at hoi
   have his:i<ops.size:=(Array.getElem?_eq_some_iff.1 hoi).1
   have hin:i<n0:=by simp at hi;omega
   have ht:=htk i hin
   unfold A4h at ht
   rw [hoi] at ht
   simp only [Bool.and_eq_true] at ht
   obtain ⟨⟨hop,hg⟩,hfree⟩:=ht
   obtain ⟨x',hop'⟩ : ∃x',o.op = .move x':=by
    split at hop
    ·exact ⟨_,by assumption⟩
    ·cases hop
   have hg':o.guard=none:=by simpa using hg
   simp only [Pu,Bool.and_eq_true] at hfg
   have hfo:Be P N o (.mov d y)=true:=hfg.1.1.1
   have hst:Cm (.mov d y) σ=some (Ak d (upA (Ai σ y)) σ):=rfl
   have h':Cu P r K (Ak d (upA (Ai σ y)) σ):=h
   obtain ⟨v,w',O',vals',fp',hrun,ho',hm⟩:=On hfo ho hst
   have hex : ∀w,(execOp a.eval o).run P w = .ok (.value (a.eval x')) w:=fun w=>by simp [execOp,hop']
   rw [hex w] at hrun
   have hv:v=a.eval x'∧w'=w:=by
    rcases hrun with hrun | ⟨hrun,_⟩
    ·cases hrun;exact ⟨rfl,rfl⟩
    ·cases hrun
   obtain ⟨rfl,rfl⟩:=hv
   have hy:Yields P ops o (a.eval x') a:= .inl ⟨by simp [Region.wanted,hg'],hex⟩
   obtain ⟨hl1,hl2⟩:=Rf ops.size i
   have hun:(Bg ops.size i).getD i true=false:=getD_in (by rw [hl1];exact his) (by rw [hl2];simp)
   have hr:i∈Region.ready .any ops (Bg ops.size i):=mem_ready.2 ⟨hun,o,hoi,fun e he hb=>by
    have:=hlt i o hoi e he hb
    rw [hl2];simp;omega⟩
   rw [List.length_cons,show r.length+1+g=(r.length+g)+1 by omega]
   refine wpAny_first hoi (Region.noSelect_spec hns) (fun c a w hq=>absurd hq (hQp _ _ _)) (r.length+g) _ a _ (fun j oj hj hne hju hno=> ?_) hr hy ?_
   ·have hjs:=(Array.getElem?_eq_some_iff.1 hj).1
    have h1:=List.all_eq_true.1 hfree j (List.mem_range.2 hjs)
    simp only [hj,Bool.or_eq_true,decide_eq_true_eq] at h1
    rcases h1 with h1 | h1 | h1
    ·have h2:(Bg ops.size i).getD j false=true:=by rw [hl2];simp;omega
     rw [getD_both hju] at h2;cases h2
    ·obtain ⟨e,he,hb⟩:=Array.any_eq_true'.1 h1
     simp only [Bool.and_eq_true,beq_iff_eq] at hb
     exact absurd hb.2 (hno e he hb.1)
    ·exact h1
   ·rw [Avj]
    refine ih (i+1) _ _ _ O' vals' fp' K (by simp at hi;omega) (fun j z hz=> ?_) (fun z hz=>hmv z (by simp [hz])) ho' h' fun σ1 a1 w1 O1 vals1 fp1 k1 k2 k3=>hk σ1 a1 w1 O1 vals1 fp1 k1 k2 (hm.trans k3)
    obtain ⟨o2,h2,h3⟩:=hfit (j+1) z (by simpa using hz)
    exact ⟨o2,by rw [show i+1+j=i+(j+1) by omega];exact h2,h3⟩
theorem Asb {id n0:Nat} {ds:List Nat} {σ:St} {a:Act} {w:World} {O vals fp} {post:List G} {K:St→Prop} (hf:At2 P N ops n0 pre post=true) (ho:Ok σ a w O gv N vals fp) (hQp : ∀c a w,¬Q (.panic c) a w)
  (h:Cu P ((pre.take n0).map (·.1)) (fun σ1=>Adf n0 (Id ds σ1)=true∧Gg P (Tw pre) (Id ds σ1) (pre.drop n0) (Wg n0) (List.replicate n0 []) (List.replicate n0 []) fun σ'=>Cu P post K σ') σ) (hn:Jq w O gv N fp K (Q .normal)):(Code.region id ops true).wp P Q a w:=by
 simp only [At2,Bool.and_eq_true,decide_eq_true_eq] at hf
 obtain ⟨⟨⟨⟨hfd,hn0⟩,hns⟩,hmv⟩,htk⟩:=hf
 obtain ⟨hmix,hgs,hlt⟩:=Agn hfd
 refine wp_region_any hmix ?_
 have hheap:Mv w O (Sof fp) { w with drawn:=w.drawn+1 } O (Sof fp):=⟨rfl,rfl,rfl,Nat.le_refl _,fun _ _ _=>⟨rfl,.rfl⟩,fun _ h=> .inl h⟩
 have ho1:Ok σ a { w with drawn:=w.drawn+1 } O gv N vals fp:=ho.world (fun b hb _=>⟨rfl,hb⟩) (fun b ⟨s,hs⟩=>⟨rfl,(ho.sim.fpO s b hs).1⟩)
 have getfit : ∀ {gs:List G} {os:List Oper} {i:Nat} {g:G},C8 P N ops gs os=true→gs[i]? = some g → ∃o,os[i]? = some o∧Pu P N ops g o=true:=by
  intro gs
  induction gs with
  | nil=>intro os i g _ hi;simp at hi
  | cons g' gs ih'=>
    intro os i g hf hi
    cases os with
    | nil=>simp [C8] at hf
    | cons o os=>
      simp only [C8,Bool.and_eq_true] at hf
      cases i with
      | zero=>simp at hi;subst hi;exact ⟨o,by simp,hf.1⟩
      | succ i=>simp at hi;obtain ⟨o',h1,h2⟩:=ih' hf.2 hi;exact ⟨o',by simpa using h1,h2⟩
 have hlen:n0≤ops.size:=by
  have : ∀(ys:List G) (os:List Oper),C8 P N ops ys os=true→ys.length=os.length:=by
   intro ys
   induction ys with
   | nil=>intro os h;cases os<;>simp [C8] at h ⊢
   | cons y ys ih=>intro os h;cases os with
     | nil=>simp [C8] at h
     | cons o os=>simp only [C8,Bool.and_eq_true] at h;simp [ih os h.2]
  have:=this _ _ hgs
  simp at this
  omega
 have hll:((pre.take n0).map (·.1)).length=n0:=by simp;omega
 have main:=Azj (P:=P) (ops:=ops) (Q:=Q) (gv:=gv) (N:=N) (n0:=n0) (fun i hi=>List.all_eq_true.1 htk i (List.mem_range.2 hi)) hns hlt hQp (ops.size-n0) ((pre.take n0).map (·.1)) 0 σ a { w with drawn:=w.drawn+1 } O vals fp _ (by rw [hll,Nat.zero_add]) (fun j x hx=>by
   rw [List.getElem?_map,List.getElem?_take] at hx
   split at hx
   ·rename_i hj
    have h1:(pre.map (·.1)++post)[j]? = some x:=by
     rw [List.getElem?_append_left (by simp;omega),List.getElem?_map];exact hx
    obtain ⟨o,h2,h3⟩:=getfit hgs h1
    exact ⟨o,by rw [Nat.zero_add];simpa using h2,h3⟩
   ·cases hx) (fun x hx=>by
   obtain ⟨e,he,rfl⟩:=List.mem_map.1 hx
   have:=List.all_eq_true.1 hmv e he
   unfold A4s at this
   split at this
   ·exact ⟨_,_,rfl⟩
   ·cases this) ho1 h (fun σ1 a1 w1 O1 vals1 fp1 k1 k2 k3=>by
   obtain ⟨fp2,k4,k5⟩:=k1.drop ds
   exact Anz hfd hn0 k4 hQp k2.1 k2.2 (Jq.pre hn (hheap.trans (k3.shrink k5))))
 rw [hll,show n0+(ops.size-n0)=ops.size by omega] at main
 exact main
end
end Go.Proofs.Ytmmcfdfdacpjgaa.Ax
namespace Go.Proofs.Ytmmcfdfdacpjgaa.Ax
open Go
def Ae2:AOp→Bool
 | .mov _ _=>true
 | .fadr _ _ _=>true
 | .ld _ _ _ _=>true
 | .iad _ _ _ _=>true
 | .nck _ _=>true
 | .asg _ _=>true
 | .bin _ _ _ _=>true
 | .pick _ _ _ _=>true
 | _=>false
def Aq7:A→Bool
 | .ref _ _=>true
 | .addr _ _ _=>true
 | .val (.int _ _)=>true
 | .val (.bool _)=>true
 | _=>false
def Agw:A→Bool
 | .agg as=>as.all Aq7
 | .ref _ _=>true
 | .addr _ _ _=>true
 | .val (.int _ _)=>true
 | .val (.bool _)=>true
 | _=>false
def Ars:A→Bool
 | .val v => !v.hasOwn
 | .fad _=>true
 | _=>false
def Tq:A→Bool
 | .agg as=>as.all fun a=>Aq7 a || Ars a
 | a=>Agw a || Ars a
theorem Aqa {a:A} (h:Agw a=true):Tq a=true:=by
 unfold Tq
 split
 ·rename_i as
  unfold Agw at h
  refine List.all_eq_true.2 fun x hx=> ?_
  rw [List.all_eq_true.1 h x hx];rfl
 rw [h];rfl
def Aq9 (d:Nat) (σ:St):Bool:=σ.all fun e => !(e.2.roots.contains d)
def Arg (a:A) (d:Nat) (σ:St):Bool:=match Agw a with
 | true=>true
 | false=>(match Tq a with
   | true=>Aq9 d σ
   | false=>false)
theorem Aw9 {a:A} {d:Nat} {σ:St} (h:Arg a d σ=true):Tq a=true∧(Agw a=true∨Aq9 d σ=true):=by
 unfold Arg at h
 split at h
 ·rename_i hu;exact ⟨Aqa hu,.inl hu⟩
 split at h
 ·rename_i hc;exact ⟨hc,.inr h⟩
 cases h
mutual
theorem Ae0 {d:Nat}:(a:A)→d∉a.roots→a.mapR (Ao d 0)=a
 | .top,_=>rfl
 | .val _,_=>rfl
 | .fad _,_=>rfl
 | .ref r p,h=>by
   have:r≠d:=fun e=>h (by simp [A.roots,e])
   simp [A.mapR,Ao,this]
 | .rfv vv r p,h=>by
   have:r≠d:=fun e=>h (by simp [A.roots,e])
   simp [A.mapR,Ao,this]
 | .addr r p c,h=>by
   have:r≠d:=fun e=>h (by simp [A.roots,e])
   simp [A.mapR,Ao,this]
 | .agg as,h=>by
   simp only [A.mapR]
   rw [Abi as (by simpa [A.roots] using h)]
 | .clo f as,h=>by
   simp only [A.mapR]
   rw [Abi as (by simpa [A.roots] using h)]
theorem Abi {d:Nat}:(as:List A)→d∉E2 as→Cd (Ao d 0) as=as
 | [],_=>rfl
 | a::r,h=>by
   simp only [Cd]
   rw [Ae0 a (fun hh=>h (by simp [E2,hh])),Abi r (fun hh=>h (by simp [E2,hh]))]
end
theorem Axh {σ:St} {d:Nat} {a:A} (hL:look σ d=a) (hn:Aq9 d σ=true):look (Ak d a σ)=look σ:=by
 have key : ∀s,d∉(look σ s).roots:=by
  intro s
  clear hL
  induction σ with
  | nil=>simp [look,A.roots]
  | cons e r ih=>
    obtain ⟨k,x⟩:=e
    simp only [Aq9,List.all_cons,Bool.and_eq_true] at hn
    simp only [look]
    split
    ·simpa using hn.1
    ·exact ih hn.2
 rw [Bl]
 funext s
 simp only [upF,Gw]
 by_cases hs:s=d
 ·subst hs
  rw [if_pos rfl,←hL,Ae0 _ (key s)]
 rw [if_neg hs,if_neg hs,Ae0 _ (key s)]
theorem Mv.more {w w':World} {O O' S S1 S':Nat→Prop} (h:Mv w O S1 w' O' S') (hs : ∀b,S1 b→S b):Mv w O S w' O' S':=by
 obtain ⟨h1,h2,h3,h4,h5,h6⟩:=h
 exact ⟨h1,h2,h3,h4,fun b hb hS=>h5 b hb fun h=>hS (hs b h),fun b hb=>(h6 b hb).imp (hs b) id⟩
theorem Z4 {w O L vals a v v'} (h:RelL w O L vals [a] [v]) (h':RelL w O L vals [a] [v']) (hu:Aq7 a=true):v=v':=by
 cases h with
 | top=>cases hu
 | rfv=>cases hu
 | val _ hr _=>
   cases h' with
   | val _ hr' _=>
     unfold Aq7 at hu
     split at hu
     case h_1 e=>cases e
     case h_2 e=>cases e
     case h_3 e=>cases e;rw [B4 hr,B4 hr']
     case h_4 e=>cases e;rw [D3 hr,D3 hr']
     case h_5=>cases hu
 | ref hL hs hv _=>
   cases h' with
   | ref hL' hs' hv' _=>rw [hv] at hv';exact Option.some.inj hv'
 | addr hL hs hn hv hb _=>
   cases h' with
   | addr hL' hs' hn' hv' hb' _=>
     rw [hv] at hv'
     cases hv'
     rw [hb] at hb'
     cases hb'
     rfl
 | fad=>cases hu
 | agg=>cases hu
 | clo=>cases hu
theorem Awm {w O L vals} : ∀ {as:List A} {vs vs':List Value},RelL w O L vals as vs→RelL w O L vals as vs'→as.all Aq7=true→vs=vs':=by
 intro as
 induction as with
 | nil=>intro vs vs' h h' _;cases h;cases h';rfl
 | cons a r ih=>
   intro vs vs' h h' hu
   simp only [List.all_cons,Bool.and_eq_true] at hu
   have one : ∀ {vs},RelL w O L vals (a::r) vs → ∃x q,vs=x::q∧RelL w O L vals [a] [x]∧RelL w O L vals r q:=by
    intro vs h
    cases h with
    | top t=>exact ⟨_,_,rfl,.top .nil,t⟩
    | val a b t=>exact ⟨_,_,rfl,.val a b .nil,t⟩
    | ref a b c t=>exact ⟨_,_,rfl,.ref a b c .nil,t⟩
    | rfv a b c t=>exact ⟨_,_,rfl,.rfv a b c .nil,t⟩
    | addr a b c d e t=>exact ⟨_,_,rfl,.addr a b c d e .nil,t⟩
    | fad a b c t=>exact ⟨_,_,rfl,.fad a b c .nil,t⟩
    | agg a t=>exact ⟨_,_,rfl,.agg a .nil,t⟩
    | clo a t=>exact ⟨_,_,rfl,.clo a .nil,t⟩
   obtain ⟨x,q,rfl,h1,h2⟩:=one h
   obtain ⟨x',q',rfl,h1',h2'⟩:=one h'
   rw [Z4 h1 h1' hu.1,ih h2 h2' hu.2]
theorem Ayk {w O L vals a v v'} (h:RelL w O L vals [a] [v]) (h':RelL w O L vals [a] [v']) (hu:Agw a=true):v=v':=by
 cases ha:a with
 | agg as=>
   subst ha
   cases h with
   | agg s _=>
     cases h' with
     | agg s' _=>rw [Awm s s' hu]
 | val V=>subst ha;exact Z4 h h' (by cases V<;>first | exact hu | (cases hu))
 | ref r p=>subst ha;exact Z4 h h' rfl
 | addr r p c=>subst ha;exact Z4 h h' rfl
 | _=>subst ha;cases hu
theorem Arf {P:Program} {o:Oper} {x:AOp} {σ a w O gv N vals fp} {d:Nat} {r:A} (hl:Ae2 x=true) (hf:Be P N o x=true) (h:Ok σ a w O gv N vals fp) (hq:qR x σ=some (d,r)) (hu:Tq r=true) :
  ∃v,(execOp a.eval o).run P w = .ok (.value v) w∧RelL w O (look σ) vals [r] [v]∧o.dst=some d∧d<N:=by
 cases x with
 | mov d' y=>
   simp only [Be,Bool.and_eq_true,beq_iff_eq,decide_eq_true_eq] at hf
   obtain ⟨⟨hd,hN⟩,hf⟩:=hf
   simp only [qR] at hq
   obtain ⟨b,h1,h2⟩:=Option.map_eq_some_iff.1 hq
   cases h2
   have hb:Ai σ y=b:=by unfold nt at h1;split at h1<;>simp_all
   have hx : ∃x',(o.op = .move x'∨o.op = .assign x')∧Au N y x'=true:=by
    split at hf
    ·exact ⟨_,.inl (by assumption),hf⟩
    ·exact ⟨_,.inr (by assumption),hf⟩
    ·cases hf
   obtain ⟨x',ho,hx'⟩:=hx
   have hr:=Ap h hx'
   rw [hb] at hr
   refine ⟨a.eval x',by rcases ho with ho | ho<;>simp [execOp,ho],?_,hd,hN⟩
   cases b with
   | val z=>
     have hn:z.up.hasOwn=false:=by
      simp only [upA,Tq,Bool.or_eq_true] at hu
      rcases hu with hu | hu
      ·generalize z.up=y at hu ⊢
       cases y<;>first | rfl | (cases hu)
      ·simpa [Ars] using hu
     cases hr with
     | val _ hr _=>exact .val hn hr.up1 .nil
   | ref p q=>exact hr
   | addr p q c=>exact hr
   | agg as=>exact hr
   | fad cs=>exact hr
   | _=>simp [upA,Tq,Agw,Ars] at hu
 | fadr d' off y=>
   simp only [Be,Bool.and_eq_true,beq_iff_eq,decide_eq_true_eq] at hf
   obtain ⟨⟨hd,hN⟩,hf⟩:=hf
   simp only [qR] at hq
   obtain ⟨l,hl',h2⟩:=Option.map_eq_some_iff.1 hq
   cases h2
   split at hf
   case h_2=>cases hf
   rename_i t x' i ho
   simp only [Bool.and_eq_true] at hf
   obtain ⟨hx,ht⟩:=hf
   split at ht
   case h_2=>cases ht
   rename_i off' fi hts
   simp only [Bool.and_eq_true,beq_iff_eq,bne_iff_ne] at ht
   obtain ⟨rfl,hz⟩:=ht
   unfold Apj at hts
   split at hts
   case h_2=>cases hts
   rename_i fs hfs
   split at hts
   case h_2=>cases hts
   rename_i f hf1
   obtain ⟨fi',hfi,h3⟩:=Option.map_eq_some_iff.1 hts
   cases h3
   obtain ⟨b,c,hv,hr⟩:=R6 f.offset (L8 h (Ap h hx) hl')
   refine ⟨_,?_,hr,hd,hN⟩
   simp [execOp,ho,hv,Instr.fieldAt,run_underlying hfs,hf1,Instr.sureAddr,fieldPlace,E4 hfi,hz,G9]
 | ld d' n ag y=>
   simp only [Be,Bool.and_eq_true,beq_iff_eq,decide_eq_true_eq] at hf
   obtain ⟨⟨hd,hN⟩,hf⟩:=hf
   split at hf
   case h_2=>cases hf
   rename_i t x' ho
   simp only [Bool.and_eq_true] at hf
   simp only [qR] at hq
   split at hq
   case h_2=>cases hq
   rename_i l hl'
   obtain ⟨z,hy,h2⟩:=Option.map_eq_some_iff.1 hq
   cases h2
   obtain ⟨u,h1,h2⟩:=Aj5 h hf.2 (L8 h (Ap h hf.1) hl') hy
   exact ⟨u,by simp [execOp,ho,h1],h2,hd,hN⟩
 | iad d' m y i=>
   simp only [Be,Bool.and_eq_true,beq_iff_eq,decide_eq_true_eq] at hf
   obtain ⟨⟨hd,hN⟩,hf⟩:=hf
   split at hf
   case h_2=>cases hf
   rename_i t x' i' ho
   simp only [Bool.and_eq_true] at hf
   obtain ⟨⟨hx,hii⟩,ht⟩:=hf
   split at ht
   case h_2=>cases ht
   rename_i fi hts
   obtain ⟨e,hu',hi⟩:=C3 hts
   have hsz:fi.size=m:=by simpa using ht
   have hrx:=Ap h hx
   have hri:=Ap h hii
   simp only [qR] at hq
   split at hq
   ·rename_i o' m' xs k j hex hej
    split at hq
    case isFalse=>cases hq
    rename_i hb
    obtain ⟨rfl,hb0,hb1⟩:=hb
    cases hq
    rw [hex] at hrx;rw [hej] at hri
    have hiv:a.eval i' = .int k j:=by cases hri with | val _ hr _=>exact B4 hr
    cases hrx with
    | val hn hr _=>
      obtain ⟨b,off,cap,v3,hval,hc,hO,r3⟩:=Az3 hr (by simpa [V.hasOwn] using hn) (i:=j.toNat) (by omega)
      refine ⟨.pointer (some ⟨b,off+j.toNat*m',none⟩),?_,.fad (us:=v3) hc hO r3 .nil,hd,hN⟩
      simp [execOp,ho,hval,hiv,Instr.indexAt,asIntOf,run_underlying hu',hb0,hb1,E4 hi,hsz,G9]
   ·rename_i r p k j hex hej
    rw [hex] at hrx;rw [hej] at hri
    have hiv:a.eval i' = .int k j:=by cases hri with | val _ hr _=>exact B4 hr
    split at hq
    case h_2=>cases hq
    rename_i o' m' xs hnode
    split at hq
    case isFalse=>cases hq
    rename_i hb
    obtain ⟨rfl,rfl,hb0,hb1⟩:=hb
    cases hq
    cases hrx with
    | @ref _ _ U u v _ _ hL hsu hv _=>
      simp only [B0,hL,hsu,Option.some.injEq] at hnode
      subst hnode
      obtain ⟨z,f1,f2,f3,_,hz,hru,_⟩:=ctx p (h.sim.own r U hL) hsu
      rw [hv] at hz;cases hz
      obtain ⟨b,kk,arr,e',f1',hh,_⟩:=(Ac0 hru rfl rfl).resolve_left (by rintro ⟨m,c,_⟩;cases c;simp at hb1;omega)
      refine ⟨.pointer (some ⟨b,j.toNat*m',none⟩),?_,.addr hL hsu rfl hv hh.block .nil,hd,hN⟩
      obtain ⟨cap,hval⟩ : ∃cap,a.eval x' = .slice (some ⟨b,0,none⟩) xs.length cap:=by
       generalize a.eval x'=q at hh
       cases hh;exact ⟨_,rfl⟩
      simp [execOp,ho,hval,hiv,Instr.indexAt,asIntOf,run_underlying hu',hb0,hb1,E4 hi,hsz,G9]
   ·cases hq
 | nck d' y=>
   simp only [Be,Bool.and_eq_true,beq_iff_eq,decide_eq_true_eq] at hf
   obtain ⟨⟨hd,hN⟩,hf⟩:=hf
   simp only [qR] at hq
   obtain ⟨l,hl',h2⟩:=Option.map_eq_some_iff.1 hq
   cases h2
   split at hf
   case h_2=>cases hf
   rename_i x' ho
   have hr:=Ap h hf
   obtain ⟨b,c,hv,_⟩:=R6 0 (L8 h hr hl')
   exact ⟨_,by simp [execOp,ho,hv],hr,hd,hN⟩
 | asg d' y=>
   simp only [Be,Bool.and_eq_true,beq_iff_eq,decide_eq_true_eq] at hf
   obtain ⟨⟨hd,hN⟩,hf⟩:=hf
   simp only [qR] at hq
   split at hq
   case h_2=>cases hq
   rename_i v hv
   cases hq
   have hx : ∃x',(o.op = .move x'∨o.op = .assign x')∧Au N y x'=true:=by
    split at hf
    ·exact ⟨_,.inl (by assumption),hf⟩
    ·exact ⟨_,.inr (by assumption),hf⟩
    ·cases hf
   obtain ⟨x',ho,hx'⟩:=hx
   have hr:=Ap h hx'
   rw [hv] at hr
   refine ⟨a.eval x',by rcases ho with ho | ho<;>simp [execOp,ho],?_,hd,hN⟩
   cases hr with
   | val hn hr _=>
     have hn2:v.up.hasOwn=false:=by
      simp only [Tq,Bool.or_eq_true] at hu
      rcases hu with hu | hu
      ·generalize v.up=y at hu ⊢
       cases y<;>first | rfl | (cases hu)
      ·simpa [Ars] using hu
     exact .val hn2 hr.up1 .nil
 | bin d' op y z=>
   simp only [Be,Bool.and_eq_true,beq_iff_eq,decide_eq_true_eq] at hf
   obtain ⟨⟨hd,hN⟩,hf⟩:=hf
   split at hf
   case h_2=>cases hf
   rename_i op' t x' y' yt ho
   simp only [Bool.and_eq_true,beq_iff_eq] at hf
   obtain ⟨⟨rfl,hx⟩,hy⟩:=hf
   simp only [qR] at hq
   split at hq
   case h_2=>cases hq
   rename_i u v hu1 hv1
   split at hq
   ·cases hq
   rename_i hnb
   obtain ⟨r0,hb,h2⟩:=Option.map_eq_some_iff.1 hq
   cases h2
   obtain ⟨ru,_⟩:=Ko (Ap h hx) hu1
   obtain ⟨rv,_⟩:=Ko (Ap h hy) hv1
   obtain ⟨z0,hrun,hz,hn,hg⟩:=Arz (P:=P) (t:=t) hb ru rv (fun b e=>absurd (by rw [e];rfl) hnb)
   exact ⟨z0,by simp [execOp,ho,hg,hrun],.val hn hz .nil,hd,hN⟩
 | pick d' c y z=>
   simp only [Be,Bool.and_eq_true,beq_iff_eq,decide_eq_true_eq] at hf
   obtain ⟨⟨hd,hN⟩,hf⟩:=hf
   split at hf
   case h_2=>cases hf
   rename_i c' x' y' ho
   simp only [Bool.and_eq_true] at hf
   obtain ⟨⟨hc,hx⟩,hy⟩:=hf
   simp only [qR] at hq
   split at hq
   case h_2=>cases hq
   rename_i b hb
   obtain ⟨z0,h1,h2⟩:=Option.map_eq_some_iff.1 hq
   cases h2
   have hz:(if b=true then Ai σ y else Ai σ z)=r:=by unfold nt at h1;split at h1<;>simp_all
   have hcv:a.eval c' = .bool b:=by
    have hr:=Ap h hc
    rw [hb] at hr
    cases hr with | val _ hr _=>exact D3 hr
   cases b
   ·exact ⟨a.eval y',by simp [execOp,ho,hcv,asBool],by rw [←hz];exact Ap h hy,hd,hN⟩
   ·exact ⟨a.eval x',by simp [execOp,ho,hcv,asBool],by rw [←hz];exact Ap h hx,hd,hN⟩
 | _=>cases hl
def Agq (o:AOp):Option (Nat×A):=match o.dst with
 | some d=>some (d,.val (.tup []))
 | none=>none
def qG (x:G) (σ:St):Option (Nat×A):=match x.g with
 | none=>qR x.o σ
 | some (s,want)=>match look σ s with
   | .val (.bool b)=>if b=want then qR x.o σ else Agq x.o
   | .val (.tup [])=>Agq x.o
   | _=>none
theorem Anp {P:Program} {ops:Array Oper} {o:Oper} {x:G} {σ a w O gv N vals fp} {d:Nat} {r:A} (hl:Ae2 x.o=true) (hf:Be P N o x.o=true) (hg:Pu P N ops x o=true) (h:Ok σ a w O gv N vals fp) (hq:qG x σ=some (d,r)) (hu:Tq r=true) :
  ∃v,((Region.wanted o (yielded ops a.tmps)=true∧(execOp a.eval o).run P w = .ok (.value v) w)∨(Region.wanted o (yielded ops a.tmps)=false∧v=undef))∧RelL w O (look σ) vals [r] [v]∧o.dst=some d∧d<N:=by
 simp only [Pu,Bool.and_eq_true,beq_iff_eq] at hg
 obtain ⟨⟨⟨_,hdst⟩,hdN⟩,hg⟩:=hg
 have skip:Agq x.o=some (d,r)→RelL w O (look σ) vals [r] [undef]∧o.dst=some d∧d<N:=by
  intro hs
  unfold Agq at hs
  split at hs
  case h_2=>cases hs
  rename_i d' hd'
  cases hs
  rw [hd'] at hdN
  exact ⟨.val rfl (RdL.grp (fp1:=[]) (fp2:=[]) (.tup [] []) .nil .nil) .nil,by rw [hdst,hd'],by simpa using hdN⟩
 unfold qG at hq
 split at hq
 ·rename_i hxg
  rw [hxg] at hg
  cases hog:o.guard with
  | none=>
    obtain ⟨v,h1,h2⟩:=Arf hl hf h hq hu
    exact ⟨v,.inl ⟨by simp [Region.wanted,hog],h1⟩,h2⟩
  | some q=>rw [hog] at hg;simp at hg
 rename_i s want hxg
 rw [hxg] at hg
 cases hog:o.guard with
 | none=>rw [hog] at hg;simp at hg
 | some q=>
   obtain ⟨j,want'⟩:=q
   rw [hog] at hg
   simp only [Bool.and_eq_true,beq_iff_eq,decide_eq_true_eq] at hg
   obtain ⟨⟨rfl,hsN⟩,hj⟩:=hg
   split at hj
   case h_2=>cases hj
   rename_i s2 hs2
   have:s2=s:=by simpa using hj
   subst this
   split at hq
   ·rename_i b hb
    have hy:=V9 h hs2 hsN hb
    have hwn:Region.wanted o (yielded ops a.tmps)=(b==want):=by
     simp [Region.wanted,hog,hy]
    split at hq
    ·rename_i hbw
     obtain ⟨v,h1,h2⟩:=Arf hl hf h hq hu
     exact ⟨v,.inl ⟨by rw [hwn];simpa using hbw,h1⟩,h2⟩
    ·rename_i hbw
     exact ⟨undef,.inr ⟨by rw [hwn];simpa using hbw,rfl⟩,skip hq⟩
   ·rename_i hb
    exact ⟨undef,.inr ⟨by simp [Region.wanted,hog,Tm h hs2 hsN hb],rfl⟩,skip hq⟩
   ·cases hq
def G8:List (Nat×G)→(St→Prop)→St→Prop
 | [],K,σ=>K σ
 | (_,x)::r,K,σ=>match x.g with
   | none=>(match qR x.o σ with
     | some (d,a)=>Tq a=true∧G8 r K (Ak d a σ)
     | none=>False)
   | some (s,want)=>match look σ s with
     | .val (.bool b)=>(b=want→match qR x.o σ with
       | some (d,a)=>Tq a=true∧G8 r K (Ak d a σ)
       | none=>False)∧(b=(!want)→G8 r K (Ks x.o σ))
     | .val (.tup [])=>G8 r K (Ks x.o σ)
     | _=>False
def Aux (A:List (Nat×G)) (xs:List Nat) (σ:St):Prop := ∀e∈A,xs.contains e.1=true → ∃d a,qG e.2 σ=some (d,a)∧look σ d=a∧Arg a d σ=true
inductive LPlan where
 | nil
 | alt (i:Nat) (o:G) (xs ds:List Nat) (next other:LPlan)
def LPlan.isNil:LPlan→Bool
 | .nil=>true
 | .alt .. => false
def LPlan.idx:LPlan→List Nat
 | .nil=>[]
 | .alt i _ _ _ _ ot=>i::ot.idx
def Pb (P:Program) (A:List (Nat×G)) (K:St→Prop):LPlan→Bool→St→Prop
 | .nil,b,σ=>b=true→K σ
 | .alt _ x xs ds nx ot,_,σ=>(Aux A xs σ∧Cu P [x] (fun σ'=>Pb P A K nx true (Id ds σ')) σ)∧Pb P A K ot false σ
def A0g (T:List (List Nat)) (pl:LPlan):List Nat→Bool
 | []=>pl.isNil
 | r::q => !pl.isNil&&(r::q).all fun x=>pl.idx.contains x || (r::q).any fun y=>(T.getD x []).contains y
def Agu (P:Program) (N:Nat) (ops:Array Oper) (T:List (List Nat)) (A:List (Nat×G)):LPlan→List Nat→List Nat→Bool
 | .nil,_,_=>true
 | .alt i x xs _ nx ot,done,Rm=>(match ops[i]? with | some o=>Pu P N ops x o | none=>false)&&Rm.contains i &&
   A.all (fun e=>xs.contains e.1 || done.any fun q=>(T.getD q []).contains e.1)&&A0g T nx (Rm.erase i)&&(!(Rm.erase i).isEmpty || A.all fun e=>(T.getD i []).contains e.1) &&
   Agu P N ops T A nx (i::done) (Rm.erase i)&&Agu P N ops T A ot done Rm
def Yi (ops:Array Oper) (A:List (Nat×G)):List Nat:=(List.range ops.size).filter fun i => !(A.map (·.1)).contains i
def Ado (P:Program) (N:Nat) (ops:Array Oper) (T:List (List Nat)) (A:List (Nat×G)) (R:List Nat) (e:Nat×G):Bool:=match ops[e.1]? with
 | some o=>Ae2 e.2.o&&Be P N o e.2.o&&Pu P N ops e.2 o&&(match o.dst with
   | some d => !(o.looksAt ops).contains d&&A.all (fun f=>f.1==e.1 || (match ops[f.1]? with | some g=>g.dst != some d&&((T.getD f.1 []).contains e.1 || !(g.looksAt ops).contains d) | none=>false))
   | none=>false)&&R.all (fun f=>f != e.1&&((T.getD f []).contains e.1 || (match ops[f]? with | some g=>o.apart ops g | none=>false)))
 | none=>false
def Az5 (P:Program) (N:Nat) (ops:Array Oper) (A:List (Nat×G)) (pl:LPlan):Bool:=
 P.follows .mixedOrders&&Region.noSelect ops&&decide (A.length+(Yi ops A).length=ops.size) &&
 ops.toList.zipIdx.all (fun (o,i)=>o.after.toList.all fun e => !Region.binds .any e || decide (e.on<i)) &&
 A.all (Ado P N ops (F3 ops) A (Yi ops A)) &&
 decide (A.map (·.1)).Nodup&&A0g (F3 ops) pl (Yi ops A)&&Agu P N ops (F3 ops) A pl [] (Yi ops A) && !(Yi ops A).isEmpty
def Mc:List (Nat×Nat×Value)→Act→Act
 | [],a=>a
 | (_,d,v)::q,a=>Mc q (a.put (some d) v)
theorem Axt : ∀ {p:List (Nat×Nat×Value)} {a:Act},(Mc p a).tmps.size=a.tmps.size:=by
 intro p
 induction p with
 | nil=>intro a;rfl
 | cons e q ih=>intro a;obtain ⟨i,d,v⟩:=e;simp only [Mc];rw [ih];simp [Act.put]
theorem At4 {t:Nat} : ∀ {p:List (Nat×Nat×Value)} {a:Act},(∀e∈p,e.2.1≠t)→(Mc p a).tmps.getD t undef=a.tmps.getD t undef:=by
 intro p
 induction p with
 | nil=>intro a _;rfl
 | cons e q ih=>
   intro a h
   obtain ⟨i,d,v⟩:=e
   simp only [Mc]
   rw [ih fun e he=>h e (by simp [he])]
   have hd:d≠t:=h (i,d,v) (by simp)
   simp [Act.put,Array.getD_eq_getD_getElem?,Array.getElem?_setIfInBounds_ne hd]
theorem Ax3 {i d:Nat} {v:Value} : ∀ {p:List (Nat×Nat×Value)} {a:Act},(i,d,v)∈p→(p.map (·.2.1)).Nodup→d<a.tmps.size→(Mc p a).tmps.getD d undef=v:=by
 intro p
 induction p with
 | nil=>intro a h;cases h
 | cons e q ih=>
   intro a h hn hd
   obtain ⟨j,t,u⟩:=e
   simp only [List.map_cons,List.nodup_cons] at hn
   simp only [Mc]
   rcases List.mem_cons.1 h with h1 | h1
   ·cases h1
    rw [At4]
    ·simp [Act.put,Array.getD_eq_getD_getElem?,hd]
    ·intro e he hed
     exact hn.1 (List.mem_map.2 ⟨e,he,hed⟩)
   ·exact ih h1 hn.2 (by simpa [Act.put] using hd)
theorem Aw4 {d:Nat} {v:Value} : ∀ {p:List (Nat×Nat×Value)} {a:Act},(∀e∈p,e.2.1≠d)→Mc p (a.put (some d) v)=(Mc p a).put (some d) v:=by
 intro p
 induction p with
 | nil=>intro a _;rfl
 | cons e q ih=>
   intro a h
   obtain ⟨i,t,u⟩:=e
   simp only [Mc]
   have ht:t≠d:=h (i,t,u) (by simp)
   rw [Act.put_comm a (x:=some d) (y:=some t) v u (by rintro d' hd' ht';cases hd';cases ht';exact ht rfl),ih fun e he=>h e (by simp [he])]
theorem Anl {i d:Nat} {v:Value} : ∀ {p q:List (Nat×Nat×Value)} {a:Act},(∀e∈p,e.2.1≠d)→Mc (p++q) (a.put (some d) v)=Mc (p++(i,d,v)::q) a:=by
 intro p
 induction p with
 | nil=>intro q a _;rfl
 | cons e r ih=>
   intro q a h
   obtain ⟨j,t,u⟩:=e
   simp only [List.cons_append,Mc]
   have ht:t≠d:=h (j,t,u) (by simp)
   rw [Act.put_comm a (x:=some d) (y:=some t) v u (by rintro d' hd' ht';cases hd';cases ht';exact ht rfl)]
   exact ih fun e he=>h e (by simp [he])
section
variable {P:Program} {ops:Array Oper} {gv:Nat→Value} {N:Nat} {Q:Exit→Act→World→Prop}
theorem Awh {o:Oper} (hs : ∀cs b,o.op ≠ .select cs b) : ∀ {p:List (Nat×Nat×Value)} {a:Act},(∀e∈p,e.2.1∉o.looksAt ops)→execOp (Mc p a).eval o=execOp a.eval o:=by
 intro p
 induction p with
 | nil=>intro a _;rfl
 | cons e q ih=>
   intro a h
   obtain ⟨i,d,v⟩:=e
   simp only [Mc]
   rw [ih fun e he=>h e (by simp [he])]
   exact execOp_put (ops:=ops) o hs a (some d) v (by rintro d' hd';cases hd';exact h (i,d,v) (by simp))
theorem A1n {j:Nat} {oj:Oper} (hj:ops[j]? = some oj) (hsel : ∀(j:Nat) (o:Oper) cs b,ops[j]? = some o→o.op ≠ .select cs b) (hQp : ∀c a w,¬Q (.panic c) a w) {K:Act→World→Prop} {w:World} :
  ∀ {p:List (Nat×Nat×Value)} {a:Act},(∀e∈p,∃oe,ops[e.1]? = some oe∧oe.dst=some e.2.1∧oe.apart ops oj=true)→wpOp P ops Q j K (Mc p a) w→wpOp P ops Q j (fun a1 w1=>K (Mc p a1) w1) a w:=by
 intro p
 induction p with
 | nil=>intro a _ h;exact h
 | cons e q ih=>
   intro a h hw
   obtain ⟨i,d,v⟩:=e
   obtain ⟨oe,h1,h2,h4⟩:=h (i,d,v) (by simp)
   simp only at h1 h2
   simp only [Mc] at hw
   have h5:=ih (fun e he=>h e (by simp [he])) hw
   rw [←h2] at h5
   have h4':Oper.apart ops { oe with guard:=none } oj=true:=by
    simp only [Oper.apart,Oper.looksAt,Bool.and_eq_true] at h4 ⊢
    refine ⟨h4.1,?_⟩
    have h8:=h4.2
    split at h8
    ·rename_i d' hd'
     simp only [Bool.not_eq_true',List.append_nil] at h8 ⊢
     rw [Bool.eq_false_iff] at h8 ⊢
     intro h9
     exact h8 (List.contains_iff_mem.2 (List.mem_append_left _ (List.contains_iff_mem.1 h9)))
    ·rfl
   have h6:=wpOp_putIf (S:=fun _=>False) (P:=P) (Q:=Q) (oi:={ oe with guard:=none }) hj h4' (fun cs b=>hsel i oe cs b h1) (fun cs b=>hsel j oj cs b hj) (fun c a w hq=>absurd hq (hQp _ _ _))
    (.inl ⟨by simp [Region.wanted],fun _ hf=>hf.elim⟩) h5
   refine wpOp_mono (fun a1 w1 h7=> ?_) h6
   have:=h7.2
   simp only [h2] at this
   simp only [Mc]
   exact this
theorem Aq8 {o:Oper} : ∀ {p:List (Nat×Nat×Value)} {a:Act},(∀e∈p,e.2.1∉o.looksAt ops)→Region.wanted o (yielded ops (Mc p a).tmps)=Region.wanted o (yielded ops a.tmps):=by
 intro p
 induction p with
 | nil=>intro a _;rfl
 | cons e q ih=>
   intro a h
   obtain ⟨i,d,v⟩:=e
   simp only [Mc]
   rw [ih fun e he=>h e (by simp [he])]
   exact wanted_put (ops:=ops) o a (some d) v (by rintro d' hd';cases hd';exact h (i,d,v) (by simp))
theorem An8 {listed:Array Bool} (h : ∃i,listed.getD i true=false) : ∃i,listed.getD i true=false ∧ ∀j,j<i→listed.getD j true≠false:=by
 obtain ⟨i,hi⟩:=h
 have : ∀k i,i≤k→listed.getD i true=false → ∃i,listed.getD i true=false ∧ ∀j,j<i→listed.getD j true≠false:=by
  intro k
  induction k with
  | zero=>intro i hk hi;exact ⟨i,hi,fun j hj=>by omega⟩
  | succ k ih=>
    intro i hk hi
    by_cases h : ∃j,j<i∧listed.getD j true=false
    ·obtain ⟨j,hj,hju⟩:=h;exact ih j (by omega) hju
    ·exact ⟨i,hi,fun j hj hju=>h ⟨j,hj,hju⟩⟩
 exact this i i (Nat.le_refl _) hi
theorem A0o {σ:St} {a:Act} {w:World} {O vals fp} {d:Nat} {r:A} (h:Ok σ a w O gv N vals fp) (hL:look σ d=r) (hu:Agw r=true):RelL w O (look σ) vals [r] [vals d]:=by
 cases hr:r with
 | val V=>
   rw [hr] at hL hu
   have h1:=h.sim.own d V hL
   have hn:V.hasOwn=false:=by
    cases V<;>first | rfl | (cases hu)
   have h2:=h1.noOwn (by simp [A4,hn])
   rw [h2] at h1
   exact .val hn h1 .nil
 | _=>
   rw [hr] at hL
   have:=h.sim.rel d (by intro V hV;rw [hL] at hV;cases hV)
   rw [hL] at this
   exact this
theorem Az0 {A:List (Nat×G)} {K:St→Prop} {σ:St} {done Rm:List Nat} {i:Nat} : ∀ {pl:LPlan} {b:Bool},Pb P A K pl b σ→Agu P N ops (F3 ops) A pl done Rm=true→i∈pl.idx →
  ∃o x ds nx,ops[i]? = some o∧Pu P N ops x o=true∧A0g (F3 ops) nx (Rm.erase i)=true∧((!(Rm.erase i).isEmpty)=true∨(A.all fun e=>((F3 ops).getD i []).contains e.1)=true) ∧
    Agu P N ops (F3 ops) A nx (i::done) (Rm.erase i)=true∧Cu P [x] (fun σ'=>Pb P A K nx true (Id ds σ')) σ:=by
 intro pl
 induction pl with
 | nil=>intro b _ _ h;cases h
 | alt j x xs ds nx ot _ ih=>
   intro b h hp hi
   simp only [Agu,Bool.and_eq_true] at hp
   by_cases hj:i=j
   ·subst hj
    obtain ⟨⟨⟨⟨⟨⟨h1,h2⟩,h3⟩,h4⟩,h5⟩,h6⟩,h7⟩:=hp
    split at h1
    ·rename_i o ho
     exact ⟨o,x,ds,nx,ho,h1,h4,by simpa only [Bool.or_eq_true] using h5,h6,h.1.2⟩
    ·cases h1
   ·exact ih h.2 hp.2 ((List.mem_cons.1 hi).resolve_left hj)
theorem Awd {o:Oper} {x:G} {i:Nat} {σ:St} {a:Act} {w:World} {O vals fp} {K:St→Prop} {next:Act→World→Prop} (hi:ops[i]? = some o) (hf:Pu P N ops x o=true) (h:Ok σ a w O gv N vals fp)
  (ha:Cu P [x] K σ) (hn:Jq w O gv N fp K next):wpOp P ops Q i next a w:=by
 simp only [Pu,Bool.and_eq_true,beq_iff_eq] at hf
 obtain ⟨⟨⟨hfo,hdst⟩,hdN⟩,hg⟩:=hf
 have hdN' : ∀d,x.o.dst=some d→d<N:=by
  intro d hd;rw [hd] at hdN;simpa using hdN
 have run:Uk P x.o (Cu P [] K) σ→o.wp P a w next Q:=fun hh=>Am9 hfo h hh hn
 have skip:Cu P [] K (Ks x.o σ)→next (a.put o.dst undef) w:=fun hh=>by
  obtain ⟨vals',fp',h1,h2⟩:=Aox h hdst hdN'
  exact hn _ _ _ _ _ _ hh h1 ((Mv.refl _ _ _).shrink h2)
 unfold wpOp
 rw [hi]
 simp only [Cu] at ha
 split at ha
 ·rename_i hxg
  rw [hxg] at hg
  cases hog:o.guard with
  | none=>
    have hw:Region.wanted o (yielded ops a.tmps)=true:=by simp [Region.wanted,hog]
    simp only [hw,if_true]
    exact .inl (run ha)
  | some q=>rw [hog] at hg;simp at hg
 rename_i s want hxg
 rw [hxg] at hg
 cases hog:o.guard with
 | none=>rw [hog] at hg;simp at hg
 | some q=>
   obtain ⟨j,want'⟩:=q
   rw [hog] at hg
   simp only [Bool.and_eq_true,beq_iff_eq,decide_eq_true_eq] at hg
   obtain ⟨⟨rfl,hsN⟩,hj⟩:=hg
   split at hj
   case h_2=>cases hj
   rename_i s2 hs2
   have:s2=s:=by simpa using hj
   subst this
   split at ha
   case h_3=>exact ha.elim
   case h_2=>
    rename_i hb
    have hw:Region.wanted o (yielded ops a.tmps)=false:=by simp [Region.wanted,hog,Tm h hs2 hsN hb]
    simp only [hw,Bool.false_eq_true,if_false]
    exact skip ha
   rename_i b hb
   have hy:=V9 h hs2 hsN hb
   have hwn:Region.wanted o (yielded ops a.tmps)=(b==want):=by
    simp [Region.wanted,hog,hy]
   by_cases hbw:b=want
   ·have hw:Region.wanted o (yielded ops a.tmps)=true:=by rw [hwn];simpa using hbw
    simp only [hw,if_true]
    exact .inl (run (ha.1 hbw))
   ·have hbn:b=(!want):=by cases b<;>cases want<;>simp_all
    have hw:Region.wanted o (yielded ops a.tmps)=false:=by rw [hwn];simpa using hbw
    simp only [hw,Bool.false_eq_true,if_false]
    exact skip (ha.2 hbn)
theorem Azg {A:List (Nat×G)} {R:List Nat} {K:St→Prop} (hsel : ∀(j:Nat) (o:Oper) cs b,ops[j]? = some o→o.op ≠ .select cs b)
  (hlt : ∀(i:Nat) (o:Oper),ops[i]? = some o → ∀e∈o.after,Region.binds .any e=true→e.on<i)
  (hA : ∀e∈A,Ado P N ops (F3 ops) A R e=true) (hQp : ∀c a w,¬Q (.panic c) a w) :
  ∀(m:Nat) (pend:List (Nat×Nat×Value)) (Rm:List Nat) (pl:LPlan) (done:List Nat) (listed:Array Bool) (a:Act) (w:World) (σ:St) O vals fp,
    pend.length+Rm.length=m→HeadInv .any ops ops.size listed→(∀i,listed.getD i true=false↔i∈pend.map (·.1)∨i∈Rm) →
    (∀e∈pend,(∃x,(e.1,x)∈A)∧(ops[e.1]?).bind (fun o:Oper=>o.dst)=some e.2.1∧e.2.1<N)→(pend.map (·.1)).Nodup→(pend.map (·.2.1)).Nodup→(∀e∈Rm,e∈R)→Rm.Nodup →
    A0g (F3 ops) pl Rm=true→Agu P N ops (F3 ops) A pl done Rm=true→(∀e∈pend,∀q∈done,e.1∉(F3 ops).getD q [])→(Rm=[]→pend=[]) →
    Ok σ (Mc pend a) w O gv N vals fp→Pb P A K pl true σ→Jq w O gv N fp K (Q .normal)→wpAny P .any ops Q m listed a w:=by
 intro m
 induction m with
 | zero=>
   intro pend Rm pl done listed a w σ O vals fp hm inv hch _ _ _ _ _ htop _ _ _ ho h hn
   have h1:pend=[]:=by cases pend with | nil=>rfl | cons=>simp at hm
   have h2:Rm=[]:=by cases Rm with | nil=>rfl | cons=>simp at hm
   subst h1;subst h2
   have h3:pl = .nil:=by cases pl with | nil=>rfl | alt=>cases htop
   subst h3
   refine ⟨?_,hn σ a w O vals fp (h rfl) ho (Mv.refl _ _ _)⟩
   cases hr:Region.ready .any ops listed with
   | nil=>rfl
   | cons i q=>
     have:i∈Region.ready .any ops listed:=by rw [hr];simp
     have:=(hch i).1 (mem_ready.1 this).1
     simp at this
 | succ m ih=>
   intro pend Rm pl done listed a w σ O vals fp hm inv hch hP hnd hnd2 hRm hRn htop hpl hdn hemp ho h hn
   have hcl : ∀k,listed.getD k false=true → ∀j∈(F3 ops).getD k [],listed.getD j false=true:=by
    intro k hk j hj
    by_cases hks:k<ops.size
    ·exact Ij inv hlt k ops[k] (by simp [hks]) (fun e he hb=>inv.closed k ops[k] (by simp [hks]) hk e he hb) j hj
    ·have:listed.getD k false=false:=by
      have hz:listed.size=ops.size:=inv.size
      simp [Array.getD,show ¬k<listed.size by omega]
     rw [this] at hk;cases hk
   have hne:Rm≠[]:=fun h0=>by rw [h0,hemp h0] at hm;simp at hm
   obtain ⟨ri,hri⟩ : ∃ri,ri∈Rm:=by
    cases Rm with
    | nil=>exact absurd rfl hne
    | cons r q=>exact ⟨r,by simp⟩
   have htop2:pl.isNil=false ∧ ∀x∈Rm,x∈pl.idx ∨ ∃y∈Rm,y∈(F3 ops).getD x []:=by
    cases Rm with
    | nil=>exact absurd rfl hne
    | cons r q=>
      simp only [A0g,Bool.and_eq_true,Bool.not_eq_true'] at htop
      refine ⟨htop.1,fun x hx=> ?_⟩
      have:=List.all_eq_true.1 htop.2 x hx
      simp only [Bool.or_eq_true] at this
      rcases this with h1 | h1
      ·exact .inl (by simpa using h1)
      ·obtain ⟨y,hy,h2⟩:=List.any_eq_true.1 h1
       exact .inr ⟨y,hy,by simpa using h2⟩
   obtain ⟨i0,x0,xs,ds0,nx0,ot0,hpl0⟩ : ∃i x xs ds nx ot,pl = .alt i x xs ds nx ot:=by
    cases pl with
    | nil=>cases htop2.1
    | alt i x xs ds nx ot=>exact ⟨i,x,xs,ds,nx,ot,rfl⟩
   have hlate:Aux A xs σ:=by rw [hpl0] at h;exact h.1.1
   have hst1:A.all (fun e=>xs.contains e.1 || done.any fun q=>((F3 ops).getD q []).contains e.1)=true:=by
    rw [hpl0] at hpl
    simp only [Agu,Bool.and_eq_true] at hpl
    exact hpl.1.1.1.1.2
   have pfit : ∀e∈pend,∃x oe,(e.1,x)∈A∧ops[e.1]? = some oe∧Ae2 x.o=true∧Be P N oe x.o=true∧Pu P N ops x oe=true∧oe.dst=some e.2.1∧e.2.1∉oe.looksAt ops ∧
     (∀f∈A,f.1≠e.1 → ∀g,ops[f.1]? = some g→e.1∈(F3 ops).getD f.1 []∨e.2.1∉g.looksAt ops) ∧
     (∀f∈R,f≠e.1 ∧ ∀g,ops[f]? = some g→e.1∈(F3 ops).getD f []∨oe.apart ops g=true):=by
    intro e he
    obtain ⟨⟨x,hx⟩,hd,_⟩:=hP e he
    have hf:=hA _ hx
    unfold Ado at hf
    simp only at hf
    cases hoe:ops[e.1]? with
    | none=>rw [hoe] at hf;cases hf
    | some oe=>
      rw [hoe] at hf hd
      simp only [Option.bind_some] at hd
      simp only [Bool.and_eq_true,hd] at hf
      obtain ⟨⟨⟨⟨h1,h2⟩,h3⟩,h4,h5⟩,h6⟩:=hf
      refine ⟨x,oe,hx,rfl,h1,h2,h3,hd,by simpa using h4,?_,?_⟩
      ·intro f hf hne g hg
       have:=List.all_eq_true.1 h5 f hf
       simp only [hg,Bool.or_eq_true,beq_iff_eq,Bool.and_eq_true] at this
       rcases this with h7 | ⟨_,h7⟩
       ·exact absurd h7 hne
       ·rcases h7 with h7 | h7
        ·exact .inl (by simpa using h7)
        ·exact .inr (by simpa using h7)
      ·intro f hf
       have:=List.all_eq_true.1 h6 f hf
       simp only [Bool.and_eq_true,bne_iff_ne,Bool.or_eq_true] at this
       refine ⟨this.1,fun g hg=> ?_⟩
       have h7:=this.2
       rw [hg] at h7
       rcases h7 with h7 | h7
       ·exact .inl (by simpa using h7)
       ·exact .inr h7
   have pun : ∀e∈pend,listed.getD e.1 false=false:=fun e he=>getD_both ((hch e.1).2 (.inl (List.mem_map.2 ⟨e,he,rfl⟩)))
   refine ⟨fun h0=> ?_,fun i hi=> ?_⟩
   ·obtain ⟨i,hu,hj⟩:=An8 (listed:=listed) ⟨ri,(hch ri).2 (.inr hri)⟩
    have his:i<ops.size:=by
     rw [←inv.size]
     rcases Nat.lt_or_ge i listed.size with h1 | h1
     ·exact h1
     ·simp [Array.getD,show ¬i<listed.size by omega] at hu
    have:i∈Region.ready .any ops listed:=mem_ready.2 ⟨hu,ops[i],by simp [his],fun e he hb=>by
     have h1:=hlt i ops[i] (by simp [his]) e he hb
     have h2:=hj _ h1
     cases hh:listed.getD e.on false with
     | true=>rfl
     | false=>exact absurd (getD_in (by rw [inv.size];omega) hh) h2⟩
    rw [h0] at this;cases this
   ·obtain ⟨hun,o,hoi,hall⟩:=mem_ready.1 hi
    have hbl:=Ij inv hlt i o hoi hall
    have his:i<ops.size:=(Array.getElem?_eq_some_iff.1 hoi).1
    rcases (hch i).1 hun with hip | hir
    ·-- something that has not been looked at yet
     obtain ⟨⟨i',d,v⟩,he,hei⟩:=List.mem_map.1 hip
     simp only at hei
     subst hei
     obtain ⟨x,oe,hxA,hoe,hlk,hfo,hg,hd,hself,hAA,hAR⟩:=pfit _ he
     simp only at hxA hoe hd hself hAA hAR
     rw [hoi] at hoe;cases hoe
     have hin:xs.contains i'=true:=by
      have:=List.all_eq_true.1 hst1 _ hxA
      simp only [Bool.or_eq_true] at this
      rcases this with h1 | h1
      ·exact h1
      ·obtain ⟨q,hq,hqb⟩:=List.any_eq_true.1 h1
       exact absurd (by simpa using hqb) (hdn _ he q hq)
     obtain ⟨d',r,hq,hL,hu⟩:=hlate _ hxA hin
     obtain ⟨hcalm,hu⟩:=Aw9 hu
     obtain ⟨v',hrun,hrel,hd',hN⟩:=Anp hlk hfo hg ho hq hcalm
     rw [hd] at hd';cases hd'
     have hvv:v'=v∨Aq9 d σ=true:=by
      refine hu.imp (fun hu=> ?_) id
      have h1:=Ayk hrel (A0o ho hL hu) hu
      rw [h1,ho.lo d hN]
      exact Ax3 he hnd2 (by have:=ho.sz;rw [Axt] at this;rw [this];exact hN)
     have hap : ∀e∈pend,e.2.1∉o.looksAt ops:=by
      intro e he2
      by_cases hee:e.1=i'
      ·have hde:e.2.1=d:=by
        have h1:=(hP e he2).2.1
        rw [hee,hoi] at h1
        simp only [Option.bind_some] at h1
        rw [hd] at h1;cases h1;rfl
       rw [hde];exact hself
      ·obtain ⟨x2,oe2,_,_,_,_,_,_,_,hAA2,_⟩:=pfit e he2
       rcases hAA2 _ hxA (fun h1=>hee h1.symm) o hoi with h1 | h1
       ·have:=hbl e.1 h1
        rw [pun e he2] at this;cases this
       ·exact h1
     rw [Awh (ops:=ops) (fun cs b=>hsel i' o cs b hoi) hap,Aq8 hap] at hrun
     suffices hgo:wpAny P .any ops Q m (listed.setIfInBounds i' true) (a.put o.dst v') w by
      unfold wpOp
      rw [hoi]
      rcases hrun with ⟨hw,hrun⟩ | ⟨hw,rfl⟩
      ·simp only [hw,if_true,Oper.wp,hrun,Oper.upon]
       exact .inl hgo
      ·simp only [hw,Bool.false_eq_true,if_false]
       exact hgo
     obtain ⟨p1,p2,rfl⟩:=List.append_of_mem he
     rw [hd]
     simp only [List.map_append,List.map_cons] at hnd hnd2
     have hn1:=List.nodup_append.1 hnd
     have hn2:=List.nodup_append.1 hnd2
     have hi1 : ∀e∈p1,e.1≠i':=fun e he3=>hn1.2.2 e.1 (List.mem_map.2 ⟨e,he3,rfl⟩) i' (by simp)
     have hi2 : ∀e∈p2,e.1≠i':=fun e he3 h1=>(List.nodup_cons.1 hn1.2.1).1 (List.mem_map.2 ⟨e,he3,h1⟩)
     have hdd : ∀e∈p1,e.2.1≠d:=fun e he3=>hn2.2.2 e.2.1 (List.mem_map.2 ⟨e,he3,rfl⟩) d (by simp)
     have hdd2 : ∀e∈p2,e.2.1≠d:=fun e he3 h1=>(List.nodup_cons.1 hn2.2.1).1 (List.mem_map.2 ⟨e,he3,h1⟩)
     obtain ⟨vals',fp',hok,hsub⟩ : ∃vals' fp',Ok σ (Mc (p1++p2) (a.put (some d) v')) w O gv N vals' fp' ∧ ∀b,Sof fp' b→Sof fp b:=by
      rcases hvv with rfl | hnr
      ·exact ⟨vals,fp,by rw [Anl (i:=i') hdd];exact ho,fun _ hb=>hb⟩
      ·obtain ⟨fp1,ho1,hs1⟩:=ho.put_rel hN hrel
       refine ⟨upF vals d v',fp1,?_,hs1⟩
       have e1:(Mc (p1++(i',d,v)::p2) a).put (some d) v'=Mc (p1++p2) (a.put (some d) v'):=by
        rw [←Anl (i:=i') hdd,←Aw4 (fun e he3=>by
         rcases List.mem_append.1 he3 with h1 | h1
         ·exact hdd e h1
         ·exact hdd2 e h1)]
        congr 1
        simp [Act.put]
       rw [e1] at ho1
       exact { sim:=by rw [←Axh hL hnr];exact ho1.sim,lo:=ho1.lo,hi:=ho1.hi,sz:=ho1.sz,df:=ho1.df }
     refine ih (p1++p2) Rm pl done _ (a.put (some d) v') w σ O vals' fp' (by simp at hm ⊢;omega) (inv.set hi his) ?_ (fun e he3=>hP e (by
       rcases List.mem_append.1 he3 with h1 | h1
       ·simp [h1]
       ·simp [h1])) ?_ ?_ hRm hRn htop hpl (fun e he3=>hdn e (by
       rcases List.mem_append.1 he3 with h1 | h1
       ·simp [h1]
       ·simp [h1])) (fun h1=>absurd h1 hne) hok h (fun σ2 a2 w2 O2 vals2 fp2 k1 k2 k3=>hn σ2 a2 w2 O2 vals2 fp2 k1 k2 (k3.more hsub))
     ·intro j
      by_cases hji:i'=j
      ·subst hji
       have h1:(listed.setIfInBounds i' true).getD i' true=true:=by simp [show i'<listed.size by rw [inv.size];exact his]
       rw [h1]
       constructor
       ·intro h2;cases h2
       ·rintro (h2 | h2)
        ·obtain ⟨e,he3,h4⟩:=List.mem_map.1 h2
         rcases List.mem_append.1 he3 with h5 | h5
         ·exact absurd h4 (hi1 e h5)
         ·exact absurd h4 (hi2 e h5)
        ·exact absurd rfl (hAR i' (hRm i' h2)).1
      ·rw [getD_set_ne true hji,hch j]
       simp only [List.map_append,List.map_cons,List.mem_append,List.mem_cons]
       constructor
       ·rintro ((h1 | h1 | h1) | h1)
        ·exact .inl (.inl h1)
        ·exact absurd h1.symm hji
        ·exact .inl (.inr h1)
        ·exact .inr h1
       ·rintro ((h1 | h1) | h1)
        ·exact .inl (.inl h1)
        ·exact .inl (.inr (.inr h1))
        ·exact .inr h1
     ·rw [List.map_append]
      exact List.nodup_append.2 ⟨hn1.1,(List.nodup_cons.1 hn1.2.1).2,fun x hx y hy=>hn1.2.2 x hx y (by simp [hy])⟩
     ·rw [List.map_append]
      exact List.nodup_append.2 ⟨hn2.1,(List.nodup_cons.1 hn2.2.1).2,fun x hx y hy=>hn2.2.2 x hx y (by simp [hy])⟩
    ·-- one of the rest
     have hidx:i∈pl.idx:=by
      rcases htop2.2 i hir with h1 | ⟨y,hy,h1⟩
      ·exact h1
      ·have h3:=hbl y h1
       rw [getD_both ((hch y).2 (.inr hy))] at h3;cases h3
     obtain ⟨o',rx,ds,nx,ho',hfo,htn,hlast,hpn,hop⟩:=Az0 h hpl hidx
     rw [hoi] at ho';cases ho'
     have hnb : ∀e∈pend,e.1∉(F3 ops).getD i []:=fun e he h1=>by
      have:=hbl e.1 h1
      rw [pun e he] at this;cases this
     have hap : ∀e∈pend,∃oe,ops[e.1]? = some oe∧oe.dst=some e.2.1∧oe.apart ops o=true:=by
      intro e he
      obtain ⟨x,oe,hxA,hoe,hlk,hfo2,hg2,hd,hself,hAA,hAR⟩:=pfit e he
      exact ⟨oe,hoe,hd,((hAR i (hRm i hir)).2 o hoi).resolve_left (hnb e he)⟩
     refine wpOp_mono (fun a1 w1 (hk : ∀a2,Mc pend a1=Mc pend a2→wpAny P .any ops Q m (listed.setIfInBounds i true) a2 w1)=>hk a1 rfl)
      (A1n (K:=fun b w1 => ∀a2,b=Mc pend a2→wpAny P .any ops Q m (listed.setIfInBounds i true) a2 w1) hoi hsel hQp hap ?_)
     refine Awd hoi hfo ho hop ?_
     intro σ' b w1 O1 vals1 fp0 hk ho0 hm0 a2 hb
     subst hb
     obtain ⟨fp1,ho1,hs1⟩:=ho0.drop ds
     have hm1:=hm0.shrink hs1
     refine ih pend (Rm.erase i) nx (i::done) _ a2 w1 (Id ds σ') O1 vals1 fp1 (by rw [List.length_erase_of_mem hir];have:=List.length_pos_of_mem hir;omega) (inv.set hi his) ?_ hP hnd hnd2 (fun e he=>hRm e (List.mem_of_mem_erase he)) (hRn.erase i) htn hpn ?_ ?_ ho1 hk (Jq.pre hn hm1)
     ·intro j
      by_cases hji:i=j
      ·subst hji
       have h1:(listed.setIfInBounds i true).getD i true=true:=by simp [show i<listed.size by rw [inv.size];exact his]
       rw [h1]
       constructor
       ·intro h2;cases h2
       ·rintro (h2 | h2)
        ·obtain ⟨e,he3,h4⟩:=List.mem_map.1 h2
         obtain ⟨x,oe,_,_,_,_,_,_,_,_,hAR⟩:=pfit e he3
         exact absurd h4.symm (hAR _ (hRm i hir)).1
        ·exact absurd rfl (hRn.mem_erase_iff.1 h2).1
      ·rw [getD_set_ne true hji,hch j]
       constructor
       ·rintro (h1 | h1)
        ·exact .inl h1
        ·exact .inr (hRn.mem_erase_iff.2 ⟨fun h=>hji h.symm,h1⟩)
       ·rintro (h1 | h1)
        ·exact .inl h1
        ·exact .inr (List.mem_of_mem_erase h1)
     ·intro e he q hq
      rcases List.mem_cons.1 hq with rfl | hq
      ·exact hnb e he
      ·exact hdn e he q hq
     ·intro h0
      cases hp:pend with
      | nil=>rfl
      | cons e q=>
        obtain ⟨⟨x,hx⟩,_⟩:=hP e (by rw [hp];simp)
        rw [h0] at hlast
        have h1:=List.all_eq_true.1 (hlast.resolve_left (by simp)) _ hx
        exact absurd (by simpa using h1) (hnb e (by rw [hp];simp))
theorem Atk {A0:List (Nat×G)} {K:St→Prop} : ∀(A:List (Nat×G)) (σ:St) (a:Act) (w:World) O vals fp,(∀e∈A,e∈A0)→(∀e∈A,∃o,ops[e.1]? = some o∧Ae2 e.2.o=true∧Be P N o e.2.o=true∧Pu P N ops e.2 o=true) →
  Ok σ a w O gv N vals fp→G8 A K σ → ∃(pend:List (Nat×Nat×Value)) (σ':St) (vals':Nat→Value) (fp':Nat→List Nat),pend.map (·.1)=A.map (·.1) ∧
   (∀e∈pend,(∃x,(e.1,x)∈A0)∧(ops[e.1]?).bind (fun o:Oper=>o.dst)=some e.2.1∧e.2.1<N)∧Ok σ' (Mc pend a) w O gv N vals' fp'∧K σ' ∧ ∀b,Sof fp' b→Sof fp b:=by
 intro A
 induction A with
 | nil=>intro σ a w O vals fp _ _ ho h;exact ⟨[],σ,vals,fp,rfl,by simp,ho,h,fun _ hb=>hb⟩
 | cons e r ih=>
   intro σ a w O vals fp h0 hf ho h
   obtain ⟨i,x⟩:=e
   obtain ⟨o,hoi,hlk,hfo,hfg⟩:=hf (i,x) (by simp)
   have run : ∀ {d q},qG x σ=some (d,q)→Tq q=true→G8 r K (Ak d q σ) → ∃(pend:List (Nat×Nat×Value)) (σ':St) (vals':Nat→Value) (fp':Nat→List Nat),pend.map (·.1)=((i,x)::r).map (·.1) ∧
     (∀e∈pend,(∃x,(e.1,x)∈A0)∧(ops[e.1]?).bind (fun o:Oper=>o.dst)=some e.2.1∧e.2.1<N)∧Ok σ' (Mc pend a) w O gv N vals' fp'∧K σ' ∧ ∀b,Sof fp' b→Sof fp b:=by
    intro d q hq hcalm h
    obtain ⟨v,_,hrel,hd,hN⟩:=Anp hlk hfo hfg ho hq hcalm
    obtain ⟨fp1,ho1,hs1⟩:=ho.put_rel hN hrel
    obtain ⟨pend,σ',vals',fp',h1,h2,h3,h4,h5⟩:=ih _ _ w O _ fp1 (fun e he=>h0 e (by simp [he])) (fun e he=>hf e (by simp [he])) ho1 h
    refine ⟨(i,d,v)::pend,σ',vals',fp',by simp [h1],?_,h3,h4,fun b hb=>hs1 b (h5 b hb)⟩
    intro e he
    rcases List.mem_cons.1 he with rfl | he
    ·exact ⟨⟨x,h0 _ (by simp)⟩,by simp only at hoi ⊢;rw [hoi];simpa using hd,hN⟩
    ·exact h2 e he
   have hdd : ∃d,x.o.dst=some d:=by
    cases hx:x.o<;>rw [hx] at hlk<;>first | exact ⟨_,rfl⟩ | cases hlk
   obtain ⟨d0,hd0⟩:=hdd
   have hskA:Ks x.o σ=Ak d0 (.val (.tup [])) σ:=by simp only [Ks,hd0]
   have hskG:Agq x.o=some (d0,.val (.tup [])):=by simp only [Agq,hd0]
   simp only [G8] at h
   split at h
   ·rename_i hxg
    split at h
    case h_2=>exact h.elim
    rename_i d q hq
    exact run (by simp only [qG,hxg];exact hq) h.1 h.2
   ·rename_i s want hxg
    split at h
    ·rename_i b hb
     by_cases hbw:b=want
     ·have h:=h.1 hbw
      split at h
      case h_2=>exact h.elim
      rename_i d q hq
      exact run (by simp only [qG,hxg,hb,if_pos hbw];exact hq) h.1 h.2
     ·have h:=h.2 (by cases b<;>cases want<;>simp_all)
      rw [hskA] at h
      exact run (by simp only [qG,hxg,hb,if_neg hbw];exact hskG) rfl h
    ·rename_i hb
     rw [hskA] at h
     exact run (by simp only [qG,hxg,hb];exact hskG) rfl h
    ·exact h.elim
theorem Arn {id:Nat} {σ:St} {a:Act} {w:World} {O vals fp} {A:List (Nat×G)} {pl:LPlan} {K:St→Prop} (hf:Az5 P N ops A pl=true) (ho:Ok σ a w O gv N vals fp) (hQp : ∀c a w,¬Q (.panic c) a w)
  (h:G8 A (Pb P A K pl true) σ) (hn:Jq w O gv N fp K (Q .normal)):(Code.region id ops true).wp P Q a w:=by
 simp only [Az5,Bool.and_eq_true,decide_eq_true_eq] at hf
 obtain ⟨⟨⟨⟨⟨⟨⟨⟨hmix,hns⟩,hlen⟩,hlt⟩,hA⟩,hAn⟩,htop⟩,hpl⟩,hne⟩:=hf
 have hlt' : ∀(i:Nat) (o:Oper),ops[i]? = some o → ∀e∈o.after,Region.binds .any e=true→e.on<i:=by
  intro i o hi e he hb
  have hm:(o,i)∈ops.toList.zipIdx:=by
   rw [List.mem_iff_getElem?]
   exact ⟨i,by simp [List.getElem?_zipIdx,hi]⟩
  have h1:=List.all_eq_true.1 (List.all_eq_true.1 hlt _ hm) e (by simpa using he)
  simp only [Bool.or_eq_true,Bool.not_eq_true',decide_eq_true_eq] at h1
  rcases h1 with h1 | h1
  ·rw [hb] at h1;cases h1
  ·exact h1
 have hA':=List.all_eq_true.1 hA
 refine wp_region_any hmix ?_
 have hheap:Mv w O (Sof fp) { w with drawn:=w.drawn+1 } O (Sof fp):=⟨rfl,rfl,rfl,Nat.le_refl _,fun _ _ _=>⟨rfl,.rfl⟩,fun _ h=> .inl h⟩
 have ho1:Ok σ a { w with drawn:=w.drawn+1 } O gv N vals fp:=ho.world (fun b hb _=>⟨rfl,hb⟩) (fun b ⟨s,hs⟩=>⟨rfl,(ho.sim.fpO s b hs).1⟩)
 have hdst : ∀e∈A,∃o,ops[e.1]? = some o∧Ae2 e.2.o=true∧Be P N o e.2.o=true∧Pu P N ops e.2 o=true:=by
  intro e he
  have h1:=hA' e he
  unfold Ado at h1
  split at h1
  ·rename_i o hoe
   simp only [Bool.and_eq_true] at h1
   exact ⟨o,hoe,h1.1.1.1.1,h1.1.1.1.2,h1.1.1.2⟩
  ·cases h1
 obtain ⟨pend,σ',vals',fp',h1,h2,h3,h4,h5⟩:=Atk (P:=P) (ops:=ops) (A0:=A) A σ a _ O vals fp (fun _ h=>h) hdst ho1 h
 have hnd2:(pend.map (·.2.1)).Nodup:=by
  have key : ∀(p:List (Nat×Nat×Value)),(∀e∈p,e∈pend)→(p.map (·.1)).Nodup→(p.map (·.2.1)).Nodup:=by
   intro p
   induction p with
   | nil=>intro _ _;simp
   | cons e q ih=>
     intro hp hn
     simp only [List.map_cons,List.nodup_cons] at hn ⊢
     refine ⟨fun hm=> ?_,ih (fun e he=>hp e (by simp [he])) hn.2⟩
     obtain ⟨f,hf,hfe⟩:=List.mem_map.1 hm
     obtain ⟨⟨x,hx⟩,hde,_⟩:=h2 e (hp e (by simp))
     obtain ⟨⟨y,hy⟩,hdf,_⟩:=h2 f (hp f (by simp [hf]))
     have hfit:=hA' _ hx
     unfold Ado at hfit
     simp only at hfit
     cases hoe:ops[e.1]? with
     | none=>rw [hoe] at hfit;cases hfit
     | some oe=>
       rw [hoe] at hfit hde
       simp only [Option.bind_some] at hde
       simp only [Bool.and_eq_true,hde] at hfit
       have h7:=List.all_eq_true.1 hfit.1.2.2 _ hy
       simp only [Bool.or_eq_true,beq_iff_eq] at h7
       rcases h7 with h7 | h7
       ·exact hn.1 (List.mem_map.2 ⟨f,hf,h7⟩)
       ·cases hof:ops[f.1]? with
        | none=>rw [hof] at h7;cases h7
        | some og=>
          rw [hof] at h7 hdf
          simp only [Option.bind_some] at hdf
          simp only [Bool.and_eq_true,bne_iff_ne,hdf] at h7
          exact h7.1 (by rw [hfe])
  exact key pend (fun _ h=>h) (by rw [h1];exact hAn)
 have main:=Azg (P:=P) (ops:=ops) (gv:=gv) (N:=N) (Q:=Q) (A:=A) (R:=Yi ops A) (K:=K) (Region.noSelect_spec hns) hlt' hA' hQp (pend.length+(Yi ops A).length) pend (Yi ops A) pl [] (Array.replicate ops.size false) a _ σ' O vals' fp' rfl ?_ ?_ h2
  (by rw [h1];exact hAn) hnd2 (fun _ h=>h) (List.nodup_range.filter _) htop hpl (by simp) (fun hr=>by rw [hr] at hne;simp at hne) h3 h4 (Jq.pre hn (hheap.trans ((Mv.refl _ _ _).shrink h5)))
 ·have e:pend.length+(Yi ops A).length=ops.size:=by
   rw [←hlen]
   congr 1
   have:=congrArg List.length h1
   simpa using this
  rw [e] at main
  exact main
 ·refine ⟨by simp,fun j oj hj hl=> ?_,fun t ht hts=>by omega⟩
  rw [getD_replicate_false] at hl;cases hl
 intro i
 have hgd:(Array.replicate ops.size false).getD i true=false↔i<ops.size:=by
  by_cases h6:i<ops.size
  ·simp [Array.getD,h6]
  ·simp [Array.getD,h6]
 rw [hgd,h1]
 constructor
 ·intro h6
  by_cases h7:i∈A.map (·.1)
  ·exact .inl h7
  refine .inr ?_
  unfold Yi
  rw [List.mem_filter]
  exact ⟨List.mem_range.2 h6,by simpa using h7⟩
 rintro (h6 | h6)
 ·obtain ⟨e,he,rfl⟩:=List.mem_map.1 h6
  obtain ⟨o,hoe,_⟩:=hdst e he
  exact (Array.getElem?_eq_some_iff.1 hoe).1
 unfold Yi at h6
 exact List.mem_range.1 (List.mem_filter.1 h6).1
end
end Go.Proofs.Ytmmcfdfdacpjgaa.Ax
namespace Go.Proofs.Ytmmcfdfdacpjgaa.Ax
open Go
inductive Ex where
 | normal
 | exit (id:Nat)
 | ret
inductive ACode where
 | skip
 | reg (gs:List G)
 | dreg (pre:List (G×List Nat)) (post:List G)
 | dregp (n0:Nat) (ds:List Nat) (pre:List (G×List Nat)) (post:List G)
 | dregl (A:List (Nat×G)) (pl:LPlan)
 | seq (a b:ACode)
 | cond (x:X) (t e:ACode)
 | block (id:Nat) (c:ACode)
 | loop (c:ACode)
 | exit (id:Nat)
 | ret
 | drop (ds:List Nat) (c:ACode)
 | cut (c:ACode)
 | frz (ss:List Nat) (c:ACode)
   | nam (g1 g2:List G) (x k e:Nat)
def Aax (n:St→Prop) (Q:Ex→St→Prop):Ex→St→Prop
 | .normal,σ=>n σ
 | .exit i,σ=>Q (.exit i) σ
 | .ret,σ=>Q .ret σ
def Aob (id:Nat) (Q:Ex→St→Prop):Ex→St→Prop
 | .normal,σ=>Q .normal σ
 | .exit i,σ=>if i=id then Q .normal σ else Q (.exit i) σ
 | .ret,σ=>Q .ret σ
def Aau (body:(Ex→St→Prop)→St→Prop) (ks:List Nat) (Q:Ex→St→Prop):Nat→St→Prop
 | 0,_=>False
 | n+1,σ=>body (Aax (fun σ'=>Aau body ks Q n (restrict ks σ')) Q) σ
def less (Q:Ex→St→Prop):Ex→St→Prop:=fun ex σ=>Q ex σ ∨ ∃ks,Q ex (restrict ks σ)
theorem Ano {Q Q':Ex→St→Prop} (h : ∀e σ,Q e σ→Q' e σ) : ∀e σ,less Q e σ→less Q' e σ:=by
 rintro e σ (hq | ⟨ks,hq⟩)
 ·exact .inl (h _ _ hq)
 exact .inr ⟨ks,h _ _ hq⟩
def unP (r q:Nat) (w:List Nat) (u T':V) (σ:St):St:=(r,.val u)::erase r (turnP q T' w σ)
def Ay4 (r q:Nat) (w:List Nat) (σ:St):St:=match look σ q with
 | .val T=>match sub w T with
   | some u=>match upd w T .dead with
     | some T'=>unP r q w u T' σ
     | none=>σ
   | none=>σ
 | _=>σ
theorem A3k {a w O gv N vals fp} (r q c:Nat) (p:List Nat) {σ} (h:Ok σ a w O gv N vals fp) (hr:look σ r = .ref q (c::p)) : ∃fp',Ok (Ay4 r q (c::p) σ) a w O gv N vals fp'∧Mv w O (Sof fp) w O (Sof fp'):=by
 unfold Ay4
 split
 case h_2=>exact ⟨fp,h,Mv.refl _ _ _⟩
 rename_i T hT
 split
 case h_2=>exact ⟨fp,h,Mv.refl _ _ _⟩
 rename_i u hu
 split
 case h_2=>exact ⟨fp,h,Mv.refl _ _ _⟩
 rename_i T' hT'
 have hrel:=h.sim.rel r (by simp [hr])
 rw [hr] at hrel
 obtain ⟨fp1,fpV,o1,rV,nV,dV,s1⟩:=My h hrel (show Ie σ (.ref q (c::p))=some (u,turnP q T' (c::p) σ) by simp [Ie,Fv,hT,hu,hT'])
 have hqr:q≠r:=fun e=>by subst e;rw [hr] at hT;cases hT
 have htop:look (turnP q T' (c::p) σ) r = .top:=by
  rw [Hn hT]
  simp only [if_neg (Ne.symm hqr),hr,A.mapR]
  have:Acp q (c::p) q (c::p)=none:=by
   unfold Acp
   rw [if_pos]
   refine ⟨rfl,?_⟩
   have key : ∀l:List Nat,Qa l l=true:=by
    intro l
    induction l with
    | nil=>rfl
    | cons x l ih=>simp [Qa,ih]
   exact key _
  rw [this]
 have hs:=o1.sim.put_own r u fpV htop rV nV (fun b hb s hbs=>(dV b hb).2 ⟨s,hbs⟩)
 have e:look (unP r q (c::p) u T' σ)=upF (look (turnP q T' (c::p) σ)) r (.val u):=by
  funext s
  unfold unP
  simp only [look,Rv,upF]
  by_cases hs:r=s
  ·subst hs;simp
  ·rw [if_neg hs,if_neg (Ne.symm hs),if_neg (Ne.symm hs)]
 rw [←e] at hs
 refine ⟨_,⟨hs,h.lo,h.hi,h.sz,h.df⟩,(Mv.refl w O _).shrink ?_⟩
 rintro b ⟨t,hb⟩
 simp only [upF] at hb
 split at hb
 ·exact (dV b hb).1
 exact s1 b ⟨t,hb⟩
noncomputable def Az4 (tv:Value) (s q c:Nat) (σ:St):St:=match look σ q with
 | .val T=>match sub [c] T with
   | some (.clov tv' f cs)=>match Classical.propDecidable (tv'=tv) with
     | .isTrue _=>(match upd [c] T .dead with
       | some T'=>Ak s (.val (.clov tv' f cs)) (Ak s .top (turnP q T' [c] σ))
       | none=>σ)
     | .isFalse _=>σ
   | _=>σ
 | _=>σ
theorem Avd {τ a w O gv N vals fp} {s:Nat} {U:V} {fpn:List Nat} (h:Ok τ a w O gv N vals fp) (hr:RdL w O [U] [vals s] fpn) (hnd:fpn.Nodup) (hdj : ∀b∈fpn,¬Sof fp b) :
  ∃fp',Ok (Ak s (.val U) (Ak s .top τ)) a w O gv N vals fp' ∧ ∀b,Sof fp' b→Sof fp b∨b∈fpn:=by
 have h1:=h.sim.put_top s (vals s)
 rw [Zp,←D1] at h1
 have h3:=h1.put_own s U fpn (by rw [Bl];simp [upF,A.mapR]) hr hnd (fun b hb t ht=>by
  simp only [upF] at ht
  split at ht
  ·simp at ht
  ·exact hdj b hb ⟨t,ht⟩)
 have e:look (Ak s (.val U) (Ak s .top τ))=upF (look (Ak s .top τ)) s (.val U):=by
  rw [Bl]
  funext t
  simp only [upF,Gw]
  split
  ·rfl
  ·rename_i ht
   rw [D1]
   simp only [Gw,if_neg ht]
   generalize look τ t=x
   have key : ∀r l,Ao s 0 r l=none∨Ao s 0 r l=some r:=by intro r l;unfold Ao;split<;>simp
   exact O3 (Ao s 0) key x
 rw [←e] at h3
 refine ⟨_,⟨h3,h.lo,h.hi,h.sz,h.df⟩,?_⟩
 rintro b ⟨t,hb⟩
 simp only [upF] at hb
 split at hb
 ·exact .inr hb
 exact .inl ⟨t,hb⟩
theorem A4g {a w O gv N vals fp} {tv:Value} (s q c:Nat) {σ} (h:Ok σ a w O gv N vals fp) (hs:look σ s = .val (.raw tv)) : ∃fp',Ok (Az4 tv s q c σ) a w O gv N vals fp'∧Mv w O (Sof fp) w O (Sof fp'):=by
 unfold Az4
 split
 case h_2=>exact ⟨fp,h,Mv.refl _ _ _⟩
 rename_i T hT
 split
 case h_2=>exact ⟨fp,h,Mv.refl _ _ _⟩
 rename_i tv' f cs hu
 split
 case h_2=>exact ⟨fp,h,Mv.refl _ _ _⟩
 rename_i etv _
 split
 case h_2=>exact ⟨fp,h,Mv.refl _ _ _⟩
 rename_i T' hT'
 subst etv
 have hvs:vals s=tv':=by
  have key : ∀ {v:Value} {fq},RdL w O [.raw tv'] [v] fq→v=tv':=by
   intro v fq hh
   cases hh with
   | leaf hl _=>cases hl;rfl
   | grp hg _ _=>cases hg
   | fblk hh _ _ _ _=>cases hh
   | oblk hh _ _ _ _ _=>cases hh
  exact key (h.sim.own s _ hs)
 obtain ⟨x,_,_,_,_,hx,hru,_⟩:=ctx [c] (h.sim.own q T hT) hu
 have hxv:x=vals s:=by rw [hvs];exact A2d hru
 subst hxv
 have hrel:RelL w O (look σ) vals [.ref q [c]] [vals s]:= .ref hT hu hx .nil
 obtain ⟨fp1,fpV,o1,rV,nV,dV,s1⟩:=My h hrel (show Ie σ (.ref q (c::[]))=some (.clov tv' f cs,turnP q T' (c::[]) σ) by simp [Ie,Fv,hT,hu,hT'])
 obtain ⟨fp',o2,s2⟩:=Avd o1 rV nV (fun b hb=>(dV b hb).2)
 refine ⟨fp',o2,(Mv.refl w O _).shrink ?_⟩
 intro b hb
 rcases s2 b hb with h1 | h1
 ·exact s1 b h1
 exact (dV b h1).1
def Ay3 (tv:Value) (x k e:Nat) (σ:St):St:=match look σ x with
 | .agg as=>(match as[k]? with
   | some (.ref r p)=>(match B0 σ r p with
     | some (.sl true _ _)=>Ak e (.rfv tv r p) (Ak x (.agg (as.set k (.val (.raw tv)))) σ)
     | _=>σ)
   | _=>σ)
 | _=>σ
theorem A3j {w O L vals} : ∀ {as:List A} {vs:List Value} {k:Nat} {a:A},RelL w O L vals as vs→as[k]? = some a →
  ∃v,RelL w O L vals [a] [v] ∧ ∀b,RelL w O L vals [b] [v]→RelL w O L vals (as.set k b) vs:=by
 intro as
 induction as with
 | nil=>intro vs k a h hk;simp at hk
 | cons x r ih=>
   intro vs k a h hk
   match vs,h.length with
   | v::vs,_=>
     obtain ⟨h1,h2⟩:=h.uncons
     cases k with
     | zero=>
       simp at hk;subst hk
       exact ⟨v,h1,fun b hb=>by simpa using hb.append h2⟩
     | succ k=>
       simp at hk
       obtain ⟨u,h3,h4⟩:=ih h2 hk
       exact ⟨u,h3,fun b hb=>by simpa using h1.append (h4 b hb)⟩
theorem A3b {σ a w O gv N vals fp} (x k e:Nat) (h:Ok σ a w O gv N vals fp) : ∃q n c fp',Ok (Ay3 (.slice q n c) x k e σ) a w O gv N vals fp'∧Mv w O (Sof fp) w O (Sof fp'):=by
 have same : ∃(q:Option Addr) (n c:Nat) (fp':_),Ok σ a w O gv N vals fp'∧Mv w O (Sof fp) w O (Sof fp'):=⟨none,0,0,fp,h,Mv.refl _ _ _⟩
 unfold Ay3
 split
 case h_2=>exact same
 rename_i as hx
 split
 case h_2=>exact same
 rename_i r p hk
 split
 case h_2=>exact same
 rename_i m xs hn
 have hrel:=h.sim.rel x (by simp [hx])
 rw [hx] at hrel
 generalize hvx:vals x=vx at hrel
 cases hrel with
 | @agg _ us _ _ s t=>
   obtain ⟨v,h1,h2⟩:=A3j s hk
   cases h1 with
   | @ref _ _ T u _ _ _ hL hs hv _=>
     have hu:u = .sl true m xs:=by simpa [B0,hL,hs] using hn
     subst hu
     obtain ⟨z,f1,fu,f2,_,hz,hru,_⟩:=ctx p (h.sim.own r T hL) hs
     rw [hv] at hz;cases hz
     have hsl : ∃q n c,v = .slice q n c:=by
      rcases Yv hru with ⟨_,e,_⟩ | ⟨_,_,_,_,_,e,_⟩<;>exact ⟨_,_,_,e⟩
     obtain ⟨q,n,c,rfl⟩:=hsl
     have hra:RelL w O (look σ) vals [.agg (as.set k (.val (.raw (.slice q n c))))] [vals x]:=by
      rw [hvx]
      exact .agg (h2 _ (.val rfl (.leaf (.raw _) .nil) .nil)) .nil
     obtain ⟨fp1,o1,s1⟩:=Lc h hra
     have hrx:r≠x:=fun e=>by subst e;rw [hx] at hL;cases hL
     have hL1:look (Ak x (.agg (as.set k (.val (.raw (.slice q n c))))) σ) r = .val T:=by
      rw [Bl];simp [upF,Gw,hrx,hL,A.mapR]
     obtain ⟨fp2,o2,s2⟩:=Lc (s:=e) o1 (x:= .rfv (.slice q n c) r p) (.rfv hL1 hs hv .nil)
     exact ⟨q,n,c,fp2,o2,(Mv.refl _ _ _).shrink fun b hb=>s1 b (s2 b hb)⟩
noncomputable def A13 (tv:Value) (e r c0:Nat) (p:List Nat) (q c:Nat) (σ:St):St:=match look σ r with
 | .val T => (match sub (c0::p) T with
   | some u=>(match upd (c0::p) T (.raw tv) with
     | some T'=>(match look (turnP r T' (c0::p) σ) q with
       | .val B=>(match sub [c] B with
         | some (.raw tv')=>(match Classical.propDecidable (tv'=tv) with
           | .isTrue _=>(match upd [c] B u with
             | some B'=>Ak (e+1) (.rfv tv r (c0::p)) (Ak e (.rfv tv q [c]) (turnP q B' [c] (turnP r T' (c0::p) σ)))
             | none=>σ)
           | .isFalse _=>σ)
         | _=>σ)
       | _=>σ)
     | none=>σ)
   | none=>σ)
 | _=>σ
theorem A4k {σ a w O gv N vals fp} {tv:Value} (e r c0:Nat) (p:List Nat) (q c:Nat) (h:Ok σ a w O gv N vals fp) (he:look σ e = .rfv tv r (c0::p)) :
  ∃fp',Ok (A13 tv e r c0 p q c σ) a w O gv N vals fp'∧Mv w O (Sof fp) w O (Sof fp'):=by
 have same : ∃(fp':_),Ok σ a w O gv N vals fp'∧Mv w O (Sof fp) w O (Sof fp'):=⟨fp,h,Mv.refl _ _ _⟩
 unfold A13
 split
 case h_2=>exact same
 rename_i T hT
 split
 case h_2=>exact same
 rename_i u hu
 split
 case h_2=>exact same
 rename_i T' hT'
 split
 case h_2=>exact same
 rename_i B hB
 split
 case h_2=>exact same
 rename_i tv' hb
 split
 case h_2=>exact same
 rename_i etv _
 subst etv
 split
 case h_2=>exact same
 rename_i B' hB'
 have hv:B5 w (c0::p) (vals r)=some tv':=by
  have hr:=h.sim.rel e (by simp [he])
  rw [he] at hr
  cases hr with
  | rfv _ _ hv _=>exact hv
 obtain ⟨fp1,fpV,o1,rV,nV,dV,s1⟩:=Z6 h hT hu hv (.leaf (.raw _) .nil) hT'
 obtain ⟨x,_,_,_,_,hx,hrb,_⟩:=ctx [c] (o1.sim.own q B hB) hb
 have hxv:x=tv':=Aoi hrb
 subst hxv
 obtain ⟨fp2,o2,s2⟩:=Ad1 o1 hB hb rfl hx rV nV (fun b hb=>(dV b hb).2) hB'
 have hLq:look (turnP q B' [c] (turnP r T' (c0::p) σ)) q = .val B':=by rw [Hn hB];simp
 have hsq:sub [c] B'=some u:=E0 [c] hb hB'
 obtain ⟨fp3,o3,s3⟩:=Lc (s:=e) o2 (x:= .rfv x q [c]) (.rfv hLq hsq hx .nil)
 have hs3 : ∀b,Sof fp3 b→Sof fp b:=by
  intro b hb
  rcases s2 b (s3 b hb) with h1 | h1
  ·exact s1 b h1
  ·exact (dV b h1).1
 have hre:r≠e:=fun e'=>by subst e';rw [he] at hT;cases hT
 have hL4 : ∃T4 u4,look (Ak e (.rfv x q [c]) (turnP q B' [c] (turnP r T' (c0::p) σ))) r = .val T4∧sub (c0::p) T4=some u4:=by
  have hLr:look (turnP r T' (c0::p) σ) r = .val T':=by rw [Hn hT];simp
  by_cases hqr:r=q
  ·subst hqr
   rw [hLr] at hB;cases hB
   have:=E0 (c0::p) hu hT'
   by_cases hcc:c=c0∧p=[]
   ·obtain ⟨rfl,rfl⟩:=hcc
    exact ⟨B',u,by rw [Bl];simp [upF,Gw,hre,hLq,A.mapR],hsq⟩
   ·by_cases hpre:Qa [c] (c0::p)=true
    ·-- the cell would hold what is below it
     simp only [Qa,Bool.and_true] at hpre
     have hcc0:=Nat.eq_of_beq_eq_true hpre
     subst hcc0
     cases p with
     | nil=>exact absurd ⟨rfl,rfl⟩ hcc
     | cons d p=>
       exfalso
       simp only [sub] at this hb
       split at hb
       ·rename_i hok
        rw [if_pos hok] at this
        split at hb
        ·rename_i k hk
         rw [hk] at this
         cases hb
         simp [V.stepOk] at this
        ·cases hb
       ·cases hb
    ·obtain ⟨u2,h2,_⟩:=J2 [c] (c0::p) this hb hB' (by simpa using hpre)
     exact ⟨B',u2,by rw [Bl];simp [upF,Gw,hre,hLq,A.mapR],h2⟩
  ·refine ⟨T',.raw x,?_,E0 (c0::p) hu hT'⟩
   rw [Bl]
   simp only [upF,if_neg hre,Gw]
   rw [Hn hB]
   simp [hqr,hLr,A.mapR]
 obtain ⟨T4,u4,hL4,hs4⟩:=hL4
 obtain ⟨fp4,o4,s4⟩:=Lc (s:=e+1) o3 (x:= .rfv x r (c0::p)) (.rfv hL4 hs4 hv .nil)
 exact ⟨fp4,o4,(Mv.refl _ _ _).shrink fun b hb=>hs3 b (s4 b hb)⟩
noncomputable def A0x (tv:Value) (e r c0:Nat) (p:List Nat) (σ:St):St:=match look σ (e+1) with
 | .rfv tv' r' (c'::p')=>(match Classical.propDecidable (tv'=tv) with
   | .isTrue _=>(match look (Ak e .top (Ak (e+1) .top σ)) r with
     | .val T => (match sub (c0::p) T with
       | some u=>(match upd (c0::p) T (.raw tv) with
         | some T0=>(match upd (c0::p) T0 u.fz with
           | some T1=>(match look (turnP r T1 (c0::p) (turnP r T0 (c0::p) (Ak e .top (Ak (e+1) .top σ)))) r' with
             | .val B=>(match sub (c'::p') B with
               | some (.raw _)=>(match upd (c'::p') B u.fz with
                 | some B'=>turnP r' B' (c'::p') (turnP r T1 (c0::p) (turnP r T0 (c0::p) (Ak e .top (Ak (e+1) .top σ))))
                 | none=>σ)
               | _=>σ)
             | _=>σ)
           | none=>σ)
         | none=>σ)
       | none=>σ)
     | _=>σ)
   | .isFalse _=>σ)
 | _=>σ
theorem A39 {σ a w O gv N vals fp} {tv:Value} (e r c0:Nat) (p:List Nat) (h:Ok σ a w O gv N vals fp) (he:look σ e = .rfv tv r (c0::p)) :
  ∃O' fp',Ok (A0x tv e r c0 p σ) a w O' gv N vals fp'∧Mv w O (Sof fp) w O' (Sof fp'):=by
 have same : ∃O' fp',Ok σ a w O' gv N vals fp'∧Mv w O (Sof fp) w O' (Sof fp'):=⟨O,fp,h,Mv.refl _ _ _⟩
 unfold A0x
 split
 case h_2=>exact same
 rename_i tv' r' c' p' he1
 split
 case h_2=>exact same
 rename_i etv _
 subst etv
 split
 case h_2=>exact same
 rename_i T hT
 split
 case h_2=>exact same
 rename_i u hu
 split
 case h_2=>exact same
 rename_i T0 hT0
 split
 case h_2=>exact same
 rename_i T1 hT1
 split
 case h_2=>exact same
 rename_i B hB
 split
 case h_2=>exact same
 rename_i tv2 hb
 split
 case h_2=>exact same
 rename_i B' hB'
 have hv:B5 w (c0::p) (vals r)=some tv':=by
  have hr:=h.sim.rel e (by simp [he])
  rw [he] at hr
  cases hr with
  | rfv _ _ hv _=>exact hv
 have hv':B5 w (c'::p') (vals r')=some tv':=by
  have hr:=h.sim.rel (e+1) (by simp [he1])
  rw [he1] at hr
  cases hr with
  | rfv _ _ hv _=>exact hv
 obtain ⟨fp5,o5,s5⟩:=Lc (s:=e+1) h (x:= .top) (.top .nil)
 obtain ⟨fp6,o6,s6⟩:=Lc (s:=e) o5 (x:= .top) (.top .nil)
 obtain ⟨fp1,fpV,o1,rV,nV,dV,s1⟩:=Z6 o6 hT hu hv (.leaf (.raw _) .nil) hT0
 have hst:Iq w O w (fun b=>O b∧b∉fpV):=fun b hb _=>⟨rfl,fun hh=>hb hh.1⟩
 have o2:Ok (turnP r T0 (c0::p) (Ak e .top (Ak (e+1) .top σ))) a w (fun b=>O b∧b∉fpV) gv N vals fp1:=o1.world hst fun b hb=>⟨rfl,by
  obtain ⟨s,hs⟩:=hb
  exact ⟨(o1.sim.fpO s b hs).1,fun hv=>(dV b hv).2 ⟨s,hs⟩⟩⟩
 have rF:RdL w (fun b=>O b∧b∉fpV) [u.fz] [tv'] []:=by
  have:=rV.fz (O2:=fun b=>O b∧b∉fpV) (fun b hb hh=>hh.2 hb) (fun b hb _ hh=>hb hh.1)
  simpa [fzL] using this
 have hL0:look (turnP r T0 (c0::p) (Ak e .top (Ak (e+1) .top σ))) r = .val T0:=by rw [Hn hT];simp
 have hs0:sub (c0::p) T0=some (.raw tv'):=E0 (c0::p) hu hT0
 obtain ⟨fp3,o3,s3⟩:=Ad1 o2 hL0 hs0 rfl hv rF (by simp) (by simp) hT1
 obtain ⟨fp4,o4,s4⟩:=Ad1 o3 hB hb rfl hv' rF (by simp) (by simp) hB'
 refine ⟨_,fp4,o4,⟨rfl,rfl,rfl,Nat.le_refl _,?_,?_⟩⟩
 ·intro b _ hb
  exact ⟨rfl,fun hh=>hh.1,fun hh=>⟨hh,fun hc=>hb (s5 b (s6 b (dV b hc).1))⟩⟩
 intro b hb
 left
 rcases s4 b hb with h1 | h1
 ·rcases s3 b h1 with h2 | h2
  ·exact s5 b (s6 b (s1 b h2))
  cases h2
 cases h1
noncomputable def A11 (tv:Value) (e q r s:Nat) (σ:St):St:=match tv with
 | .slice (some ad) _ c2=>(match look σ q with
   | .val (.sl true m zs)=>(match look σ r with
     | .val (.raw (.slice (some ad') n c))=>(match look σ s with
       | .val (.raw (.slice (some ad'') n' c'))=>(match Classical.propDecidable (ad'=ad∧c=c2∧n≤zs.length∧ad''=ad'∧n'=n∧c'=c) with
         | .isTrue _=>Ak s (.ref r []) (Ak r (.val (.sl true m (zs.take n))) (Ak r .top (Ak q .top (Ak e .top σ))))
         | .isFalse _=>σ)
       | _=>σ)
     | _=>σ)
   | _=>σ)
 | _=>σ
theorem A4b {σ a w O gv N vals fp} {tv:Value} (e q r s:Nat) (h:Ok σ a w O gv N vals fp) (he:look σ e = .rfv tv q []) :
  ∃fp',Ok (A11 tv e q r s σ) a w O gv N vals fp'∧Mv w O (Sof fp) w O (Sof fp'):=by
 have same : ∃(fp':_),Ok σ a w O gv N vals fp'∧Mv w O (Sof fp) w O (Sof fp'):=⟨fp,h,Mv.refl _ _ _⟩
 unfold A11
 split
 case h_2=>exact same
 rename_i ad n2 c2
 split
 case h_2=>exact same
 rename_i m zs hq
 split
 case h_2=>exact same
 rename_i ad' n c hr
 split
 case h_2=>exact same
 rename_i ad'' n' c' hs
 split
 case h_2=>exact same
 rename_i hcond _
 obtain ⟨rfl,rfl,hn,rfl,rfl,rfl⟩:=hcond
 have hvq:vals q = .slice (some ad'') n2 c':=by
  have hh:=h.sim.rel e (by simp [he])
  rw [he] at hh
  cases hh with
  | rfv _ _ hv _=>simpa [B5] using hv
 have hvr:vals r = .slice (some ad'') n' c':=Aoi (h.sim.own r _ hr)
 have hvs:vals s = .slice (some ad'') n' c':=Aoi (h.sim.own s _ hs)
 obtain ⟨fp0,o0,s0⟩:=Lc (s:=e) h (x:= .top) (.top .nil)
 have hq0:e≠q:=fun e'=>by subst e';rw [he] at hq;cases hq
 have hLq:look (Ak e .top σ) q = .val (.sl true m zs):=by rw [Bl];simp [upF,Gw,Ne.symm hq0,hq,A.mapR]
 have hU:Fv (Ak e .top σ) (.ref q [])=some (.sl true m zs,Ak q .top (Ak e .top σ)):=by simp [Fv,hLq]
 have hrel:RelL w O (look (Ak e .top σ)) vals [.ref q []] [vals q]:= .ref hLq rfl rfl .nil
 obtain ⟨fp1,fpV,o1,rV,nV,dV,s1⟩:=Pi o0 (Wb hrel rfl).1 hU
 rw [hvq] at rV
 rcases Yv rV with ⟨_,hv,_⟩ | ⟨b,cap,arr,e',fpk,hv,hb,hcap,hk,hmX,hf,efx,hO⟩
 ·cases hv
 cases hv
 subst efx
 have hsp:Ay zs=Ay (zs.take n')++Ay (zs.drop n'):=by rw [←E3,List.take_append_drop]
 rw [hsp] at hf
 obtain ⟨vs1,vs2,fp3,fp4,e1,e2,r1,r2⟩:=RdL.split _ hf
 have hl1:vs1.length=(Ay (zs.take n')).length:=r1.length
 have etk:arr.toList.take (Ay (zs.take n')).length=vs1:=by
  have:=congrArg (List.take (Ay (zs.take n')).length) e1
  rw [List.take_take,Nat.min_eq_left (by simp),←hl1,List.take_left,hl1] at this
  exact this
 have nd3:(b::fp3).Nodup:=by
  rw [e2] at nV
  exact nV.sublist (List.Sublist.cons_cons _ (List.sublist_append_left _ _))
 have hin : ∀c∈b::fp3,c∈b::fpk:=fun c hc=>by
  rw [e2]
  rcases List.mem_cons.1 hc with rfl | hc
  ·exact List.mem_cons_self
  ·exact List.mem_cons_of_mem _ (List.mem_append_left _ hc)
 have hlen:(zs.take n').length=n':=by rw [List.length_take];omega
 have hhdr:=Hdr.sl true m (zs.take n') b 0 c' (fun y hy=>hmX y (List.mem_of_mem_take hy)) (by rw [hlen];omega)
 rw [hlen] at hhdr
 obtain ⟨fp5,o3,s3⟩:=Avd (s:=r) o1 (U:= .sl true m (zs.take n')) (fpn:=b::(fp3++[])) (by rw [hvr];exact .oblk hhdr hb hO hk (by rw [etk];exact r1) .nil) (by simpa using nd3) (fun c hc=>(dV c (hin c (by simpa using hc))).2)
 have hLr:look (Ak r (.val (.sl true m (zs.take n'))) (Ak r .top (Ak q .top (Ak e .top σ)))) r = .val (.sl true m (zs.take n')):=by rw [Bl];simp [upF,A.mapR]
 obtain ⟨fp6,o4,s4⟩:=Lc (s:=s) o3 (x:= .ref r []) (.ref hLr rfl (by simp [B5,hvr,hvs]) .nil)
 refine ⟨fp6,o4,(Mv.refl _ _ _).shrink fun c hc=> ?_⟩
 rcases s3 c (s4 c hc) with h1 | h1
 ·exact s0 c (s1 c h1)
 exact s0 c (dV c (hin c (by simpa using h1))).1
noncomputable def Nd (e:Nat) (σ:St):St:=match look σ (e%100000) with
 | .val (.raw tv)=>Az4 tv (e%100000) ((e/100000-1000)/100) (e/100000%100) σ
 | .rfv tv r (c0::p)=>(match Nat.beq (e/100000) 901 with
   | true=>A0x tv (e%100000) r c0 p σ
   | false=>A13 tv (e%100000) r c0 p ((e/100000-1000)/100) (e/100000%100) σ)
 | .rfv tv q []=>A11 tv (e%100000) q (e/100000/1000) (e/100000%1000) σ
 | .ref q (c::p)=>(match Nat.beq (e/100000) 900 with
   | true=>Ay4 (e%100000) q (c::p) σ
   | false=>σ)
 | .ref q []=>(match look σ q with
   | .val V=>(match Nat.blt q 100000 with
     | true=>Ak (e%100000) (.val V.fz) (Ak (e%100000) .top (Ak q (.val V.fz) (Ak q .top σ)))
     | false=>σ)
   | _=>σ)
 | _=>Afr e σ
noncomputable def A0m:List Nat→St→St
 | [],σ=>σ
 | s::r,σ=>A0m r (Nd s σ)
def awp (P:Program):ACode→(Ex→St→Prop)→St→Prop
 | .skip,Q,σ=>Q .normal σ
 | .reg gs,Q,σ=>Cu P gs (Q .normal) σ
 | .dreg pre post,Q,σ=>Gg P (Tw pre) σ pre [] [] [] fun σ'=>Cu P post (Q .normal) σ'
 | .dregp n0 ds pre post,Q,σ=>Cu P ((pre.take n0).map (·.1)) (fun σ1=>Adf n0 (Id ds σ1)=true∧Gg P (Tw pre) (Id ds σ1) (pre.drop n0) (Wg n0) (List.replicate n0 []) (List.replicate n0 []) fun σ'=>Cu P post (Q .normal) σ') σ
 | .dregl A pl,Q,σ=>G8 A (Pb P A (Q .normal) pl true) σ
 | .seq a b,Q,σ=>awp P a (Aax (awp P b Q) Q) σ
 | .cond x t e,Q,σ=>match Ai σ x with
   | .val (.bool b)=>(b=true→awp P t Q σ)∧(b=false→awp P e Q σ)
   | _=>False
 | .block id c,Q,σ=>awp P c (Aob id Q) σ
 | .loop c,Q,σ => ∃ks n,Aau (awp P c) ks (less Q) n (restrict ks σ)
 | .exit id,Q,σ=>Q (.exit id) σ
 | .ret,Q,σ=>Q .ret σ
 | .drop ds c,Q,σ=>awp P c Q (Id ds σ)
 | .cut c,Q,σ=>awp P c (less Q) σ
 | .frz ss c,Q,σ=>awp P c Q (A0m ss σ)
 | .nam g1 g2 x k e,Q,σ=>Cu P g1 (fun σ1 => ∀q n c,Cu P g2 (Q .normal) (Ay3 (.slice q n c) x k e σ1)) σ
def Ga (P:Program) (N:Nat):ACode→Code→Bool
 | .skip,.skip=>true
 | .reg gs,.region _ ops false=>C8 P N ops gs ops.toList
 | .dreg pre post,.region _ ops true=>Aku P N ops pre post
 | .dregp n0 _ pre post,.region _ ops true=>At2 P N ops n0 pre post
 | .dregl A R,.region _ ops true=>Az5 P N ops A R
 | .seq a b,.seq c d=>Ga P N a c&&Ga P N b d
 | .cond x t e,.cond o c d=>Au N x o&&Ga P N t c&&Ga P N e d
 | .block i c,.block j d=>i==j&&Ga P N c d
 | .loop c,.loop d=>Ga P N c d
 | .exit i,.exit j=>i==j
 | .ret,.ret=>true
 | .drop _ c,d=>Ga P N c d
 | .cut c,d=>Ga P N c d
 | .frz _ c,d=>Ga P N c d
 | .nam g1 g2 _ _ _,.region _ ops false=>C8 P N ops g1 (ops.toList.take g1.length)&&C8 P N ops g2 (ops.toList.drop g1.length)
 | _,_=>false
def Ab1:Exit→Option Ex
 | .normal=>some .normal
 | .exit i=>some (.exit i)
 | .ret=>some .ret
 | _=>none
def Aam (w:World) (O:Nat→Prop) (gv:Nat→Value) (N:Nat) (fp:Nat→List Nat) (Q:Ex→St→Prop):Exit→Act→World→Prop:=fun e a' w'=>
 ∃ex σ' O' vals' fp',Ab1 e=some ex∧Q ex σ'∧Ok σ' a' w' O' gv N vals' fp'∧Mv w O (Sof fp) w' O' (Sof fp')
theorem Aam.pre {w O gv N fp Q w1 O1 fp1 e a' w'} (hm:Mv w O (Sof fp) w1 O1 (Sof fp1)) (h:Aam w1 O1 gv N fp1 Q e a' w'):Aam w O gv N fp Q e a' w':=by
 obtain ⟨ex,σ',O',vals',fp',h1,h2,h3,h4⟩:=h
 exact ⟨ex,σ',O',vals',fp',h1,h2,h3,hm.trans h4⟩
theorem Aam.less {w O gv N fp Q e a' w'} (h:Aam w O gv N fp (less Q) e a' w'):Aam w O gv N fp Q e a' w':=by
 obtain ⟨ex,σ',O',vals',fp',h1,h2,h3,h4⟩:=h
 rcases h2 with h2 | ⟨ks,h2⟩
 ·exact ⟨ex,σ',O',vals',fp',h1,h2,h3,h4⟩
 obtain ⟨fp2,ho2,hs2⟩:=h3.restrict ks
 exact ⟨ex,_,O',vals',fp2,h1,h2,ho2,h4.shrink hs2⟩
theorem A2n {a w gv N vals} (e:Nat) {σ O fp} (h:Ok σ a w O gv N vals fp) : ∃O' fp',Ok (Nd e σ) a w O' gv N vals fp'∧Mv w O (Sof fp) w O' (Sof fp'):=by
 unfold Nd
 split
 ·rename_i tv hL
  obtain ⟨fp',h1,h2⟩:=A4g (e%100000) ((e/100000-1000)/100) (e/100000%100) h hL
  exact ⟨O,fp',h1,h2⟩
 ·rename_i tv r c0 p hL
  split
  ·exact A39 (e%100000) r c0 p h hL
  obtain ⟨fp',h1,h2⟩:=A4k (e%100000) r c0 p ((e/100000-1000)/100) (e/100000%100) h hL
  exact ⟨O,fp',h1,h2⟩
 ·rename_i tv q hL
  obtain ⟨fp',h1,h2⟩:=A4b (e%100000) q (e/100000/1000) (e/100000%1000) h hL
  exact ⟨O,fp',h1,h2⟩
 ·rename_i q c p hL
  split
  ·obtain ⟨fp',h1,h2⟩:=A3k (e%100000) q c p h hL
   exact ⟨O,fp',h1,h2⟩
  exact ⟨O,fp,h,Mv.refl _ _ _⟩
 case h_6=>exact Ad7 e h
 rename_i q hL
 split
 case h_2=>exact ⟨O,fp,h,Mv.refl _ _ _⟩
 rename_i V hV
 split
 case h_2=>exact ⟨O,fp,h,Mv.refl _ _ _⟩
 rename_i hq
 have hq:q<100000:=Nat.blt_eq▸hq
 generalize e%100000=s at hL
 have hr:=h.sim.rel s (by simp [hL])
 rw [hL] at hr
 have hv:vals q=vals s:=by
  cases hr with
  | ref _ _ hv _=>simpa [B5] using hv
 obtain ⟨O1,fp1,h1,m1⟩:=Ad7 q h
 have e1:Afr q σ=Ak q (.val V.fz) (Ak q .top σ):=by
  unfold Afr
  rw [Nat.mod_eq_of_lt hq,Nat.div_eq_of_lt hq,hV]
  simp only [Al]
 rw [e1] at h1
 have hl:look (Ak q (.val V.fz) (Ak q .top σ)) q = .val V.fz:=by rw [Bl];simp [upF,A.mapR]
 have r1:=h1.sim.own q _ hl
 have e2:fp1 q=[]:=r1.noOwn (by simp [A4,Asx])
 rw [e2,hv] at r1
 obtain ⟨fp2,h2,m2⟩:=A0c h1 r1
 exact ⟨O1,fp2,h2,m1.trans m2⟩
theorem A1e {a w gv N vals} : ∀(ss:List Nat) {σ O fp},Ok σ a w O gv N vals fp → ∃O' fp',Ok (A0m ss σ) a w O' gv N vals fp'∧Mv w O (Sof fp) w O' (Sof fp'):=by
 intro ss
 induction ss with
 | nil=>intro σ O fp h;exact ⟨O,fp,h,Mv.refl _ _ _⟩
 | cons s r ih=>
   intro σ O fp h
   obtain ⟨O1,fp1,h1,m1⟩:=A2n s h
   obtain ⟨O2,fp2,h2,m2⟩:=ih h1
   exact ⟨O2,fp2,h2,m1.trans m2⟩
theorem Aus {P:Program} {N:Nat} {c:ACode} {d:Code} {ks:List Nat} {gv:Nat→Value}
  (ih : ∀ {Q:Ex→St→Prop} {σ a w O vals fp},awp P c Q σ→Ok σ a w O gv N vals fp→d.wp P (Aam w O gv N fp Q) a w) {Q:Ex→St→Prop} :
  ∀n σ a w O vals fp,Aau (awp P c) ks Q n σ→Ok σ a w O gv N vals fp→(Code.loop d).wp P (Aam w O gv N fp Q) a w:=by
 intro n σ a w O vals fp hl ho
 have key : ∀n σ a w O vals fp,Aau (awp P c) ks Q n σ→Ok σ a w O gv N vals fp → ∀(b:Frame) (k:List Item) (cs:List Frame),
   ∃e a' w',Aam w O gv N fp Q e a' w'∧Arrives P (lone (b.at a (.code d :: .inLoop d::k)) cs w) b k cs e a' w':=by
  intro n
  induction n with
  | zero=>intro σ a w O vals fp hl;exact hl.elim
  | succ n ihn=>
    intro σ a w O vals fp hl ho b k cs
    obtain ⟨e,a1,w1,⟨ex,σ1,O1,vals1,fp1,he,hq,ho1,hm1⟩,harr⟩:=ih hl ho b (.inLoop d::k) cs
    cases e with
    | normal=>
      simp only [Ab1,Option.some.injEq] at he;subst he
      obtain ⟨fp2,ho2,hs2⟩:=ho1.restrict ks
      obtain ⟨e2,a2,w2,hq2,harr2⟩:=ihn _ _ _ _ _ _ hq ho2 b k cs
      exact ⟨e2,a2,w2,Aam.pre (hm1.shrink hs2) hq2,.of_steps (Steps.trans harr (.one step_inLoop)) harr2⟩
    | exit i=>
      simp only [Ab1,Option.some.injEq] at he;subst he
      exact ⟨.exit i,a1,w1,⟨_,_,_,_,_,rfl,hq,ho1,hm1⟩,.pass (x:= .inLoop d) rfl (fun _ _=> .inl (by simp)) harr⟩
    | ret=>
      simp only [Ab1,Option.some.injEq] at he;subst he
      exact ⟨.ret,a1,w1,⟨_,_,_,_,_,rfl,hq,ho1,hm1⟩,.pass (x:= .inLoop d) rfl (fun _ _=> .inl (by simp)) harr⟩
    | goto l=>simp [Ab1] at he
    | panic ch=>simp [Ab1] at he
    | outgrown=>simp [Ab1] at he
 intro b k cs
 obtain ⟨e,a',w',hq,harr⟩:=key n σ a w O vals fp hl ho b k cs
 exact ⟨e,a',w',hq,.of_steps (.one step_loop) harr⟩
theorem Axy {P:Program} {N:Nat} {gv:Nat→Value} : ∀(c:ACode) {d:Code},Ga P N c d=true → ∀ {Q:Ex→St→Prop} {σ a w O vals fp},awp P c Q σ→Ok σ a w O gv N vals fp →
  d.wp P (Aam w O gv N fp Q) a w:=by
 intro c
 induction c with
 | skip=>
   intro d hf Q σ a w O vals fp h ho
   cases d<;>simp [Ga] at hf
   exact wp_skip ⟨_,_,_,_,_,rfl,h,ho,Mv.refl _ _ _⟩
 | exit i=>
   intro d hf Q σ a w O vals fp h ho
   cases d<;>simp [Ga] at hf
   subst hf
   exact wp_exit ⟨_,_,_,_,_,rfl,h,ho,Mv.refl _ _ _⟩
 | ret=>
   intro d hf Q σ a w O vals fp h ho
   cases d<;>simp [Ga] at hf
   exact wp_ret ⟨_,_,_,_,_,rfl,h,ho,Mv.refl _ _ _⟩
 | reg gs=>
   intro d hf Q σ a w O vals fp h ho
   cases d with
   | region id ops draw=>
     cases draw with
     | true=>simp [Ga] at hf
     | false=>
       exact wp_region_list (Af9 hf ho h fun σ' a' w' O' vals' fp' hk ho' hm=>⟨_,_,_,_,_,rfl,hk,ho',hm⟩)
   | _=>simp [Ga] at hf
 | dreg pre post=>
   intro d hf Q σ a w O vals fp h ho
   cases d with
   | region id ops draw=>
     cases draw with
     | false=>simp [Ga] at hf
     | true=>
       exact Aug hf ho (by rintro c a w ⟨_,_,_,_,_,h1,_⟩;cases h1) h fun σ' a' w' O' vals' fp' hk ho' hm=>⟨_,_,_,_,_,rfl,hk,ho',hm⟩
   | _=>simp [Ga] at hf
 | dregp n0 ds pre post=>
   intro d hf Q σ a w O vals fp h ho
   cases d with
   | region id ops draw=>
     cases draw with
     | false=>simp [Ga] at hf
     | true=>
       exact Asb hf ho (by rintro c a w ⟨_,_,_,_,_,h1,_⟩;cases h1) h fun σ' a' w' O' vals' fp' hk ho' hm=>⟨_,_,_,_,_,rfl,hk,ho',hm⟩
   | _=>simp [Ga] at hf
 | dregl A R=>
   intro d hf Q σ a w O vals fp h ho
   cases d with
   | region id ops draw=>
     cases draw with
     | false=>simp [Ga] at hf
     | true=>
       exact Arn hf ho (by rintro c a w ⟨_,_,_,_,_,h1,_⟩;cases h1) h fun σ' a' w' O' vals' fp' hk ho' hm=>⟨_,_,_,_,_,rfl,hk,ho',hm⟩
   | _=>simp [Ga] at hf
 | seq x y ih1 ih2=>
   intro d hf Q σ a w O vals fp h ho
   cases d<;>simp [Ga] at hf
   refine wp_seq (wp_mono (ih1 hf.1 h ho) ?_)
   rintro e a' w' ⟨ex,σ',O',vals',fp',he,hq,ho',hm⟩
   cases e<;>simp [Ab1] at he<;>subst he
   ·exact wp_mono (ih2 hf.2 hq ho') fun _ _ _=>Aam.pre hm
   ·exact ⟨_,_,_,_,_,rfl,hq,ho',hm⟩
   ·exact ⟨_,_,_,_,_,rfl,hq,ho',hm⟩
 | cond x t e ih1 ih2=>
   intro d hf Q σ a w O vals fp h ho
   cases d<;>simp [Ga] at hf
   obtain ⟨⟨hx,ht⟩,he⟩:=hf
   simp only [awp] at h
   split at h
   case h_2=>exact h.elim
   rename_i b hb
   have hr:=Ap ho hx
   rw [hb] at hr
   refine wp_cond_split (t:=b) (by cases hr with | val _ hr _=>exact D3 hr) (fun hb=>ih1 ht (h.1 hb) ho) (fun hb=>ih2 he (h.2 hb) ho)
 | block i c ih=>
   intro d hf Q σ a w O vals fp h ho
   cases d<;>simp [Ga] at hf
   obtain ⟨rfl,hc⟩:=hf
   refine wp_block (wp_mono (ih hc h ho) ?_)
   rintro e a' w' ⟨ex,σ',O',vals',fp',he,hq,ho',hm⟩
   cases e<;>simp [Ab1] at he<;>subst he
   ·exact ⟨_,_,_,_,_,rfl,hq,ho',hm⟩
   ·rename_i i
    simp only [Exit.inBlock]
    simp only [Aob] at hq
    split at hq
    ·rename_i hi
     rw [if_pos hi];exact ⟨_,_,_,_,_,rfl,hq,ho',hm⟩
    ·rename_i hi
     rw [if_neg hi];exact ⟨_,_,_,_,_,rfl,hq,ho',hm⟩
   ·exact ⟨_,_,_,_,_,rfl,hq,ho',hm⟩
 | loop c ih=>
   intro d hf Q σ a w O vals fp h ho
   cases d<;>simp [Ga] at hf
   obtain ⟨ks,n,hl⟩:=h
   obtain ⟨fp2,ho2,hs2⟩:=ho.restrict ks
   refine wp_mono (Aus (ks:=ks) (fun h1 h2=>ih hf h1 h2) n _ a w O vals fp2 hl ho2) ?_
   intro e a' w' hh
   exact (Aam.pre ((Mv.refl _ _ _).shrink hs2) hh).less
 | cut c ih=>
   intro d hf Q σ a w O vals fp h ho
   have hf':Ga P N c d=true:=by cases d<;>exact hf
   exact wp_mono (ih hf' h ho) fun e a' w' hh=>hh.less
 | nam g1 g2 x k e=>
   intro d hf Q σ a w O vals fp h ho
   cases d with
   | region id ops draw=>
     cases draw with
     | true=>simp [Ga] at hf
     | false=>
       simp only [Ga,Bool.and_eq_true] at hf
       have hw:=wp_region_list (P:=P) (id:=id) (ops:=ops) (a:=a) (w:=w) (Q:=Aam w O gv N fp Q)
       refine hw ?_
       rw [←List.take_append_drop g1.length ops.toList]
       refine Akd hf.1 ho h fun σ' a' w' O' vals' fp' hk ho' hm=> ?_
       obtain ⟨q,n,c,fp2,o2,m2⟩:=A3b x k e ho'
       exact Af9 hf.2 o2 (hk q n c) fun σ2 a2 w2 O2 vals2 fp3 hk2 ho2 hm2=>⟨_,_,_,_,_,rfl,hk2,ho2,(hm.trans m2).trans hm2⟩
   | _=>simp [Ga] at hf
 | frz ss c ih=>
   intro d hf Q σ a w O vals fp h ho
   have hf':Ga P N c d=true:=by cases d<;>exact hf
   obtain ⟨O2,fp2,ho2,hm2⟩:=A1e ss ho
   exact wp_mono (ih hf' h ho2) fun e a' w' hh=>Aam.pre hm2 hh
 | drop ds c ih=>
   intro d hf Q σ a w O vals fp h ho
   have hf':Ga P N c d=true:=by cases d<;>exact hf
   obtain ⟨fp2,ho2,hs2⟩:=ho.drop ds
   exact wp_mono (ih hf' h ho2) fun e a' w' hh=>Aam.pre ((Mv.refl _ _ _).shrink hs2) hh
end Go.Proofs.Ytmmcfdfdacpjgaa.Ax
namespace Go.Proofs.Ytmmcfdfdacpjgaa.Ax
open Go
def entry (N:Nat):Nat→List V→St
 | _,[]=>[]
 | i,v::r=>if v.hasOwn then (i,.ref (N+i) [])::(N+i,.val v)::entry N (i+1) r else (i,.val v)::entry N (i+1) r
theorem Axk {w:World} {O:Nat→Prop} {vals:Nat→Value} {N:Nat} : ∀ {args:List V} {i:Nat} {us:List Value} {fp:List Nat},RdL w O args us fp→fp.Nodup→i+args.length≤N →
  (∀j u,us[j]? = some u→vals (i+j)=u∧vals (N+i+j)=u) →
  ∃fpf,Sim w O (look (entry N i args)) vals fpf∧(∀b,Sof fpf b→b∈fp)∧(∀s,s<i→look (entry N i args) s = .top)∧(∀s,N≤s→s<N+i→look (entry N i args) s = .top):=by
 intro args
 induction args with
 | nil=>
   intro i us fp h _ _ _
   refine ⟨fun _=>[],⟨?_,fun _ _=>rfl,?_,by simp,by simp⟩,?_,fun _ _=>rfl,fun _ _ _=>rfl⟩
   ·intro s V hL;simp [entry,look] at hL
   ·intro s _;exact .top .nil
   ·rintro b ⟨s,hs⟩;simp at hs
 | cons v r ih=>
   intro i us fp h hnd hN hv
   obtain ⟨u,us2,f1,f2,rfl,rfl,h1,h2⟩:=h.cons_split
   have nd:=List.nodup_append.1 hnd
   simp at hN
   have hu:=hv 0 u (by simp)
   simp at hu
   obtain ⟨fpf,hs,hsub,ht1,ht2⟩:=ih (i:=i+1) h2 nd.2.1 (by omega) (by
    intro j x hx
    have:=hv (j+1) x (by simpa using hx)
    rw [show i+1+j=i+(j+1) by omega,show N+(i+1)+j=N+i+(j+1) by omega];exact this)
   by_cases ho:v.hasOwn=true
   ·have s1:=hs.put_own (N+i) v f1 (ht2 _ (by omega) (by omega)) (by rw [hu.2];exact h1) nd.1 (by
     intro b hb s hbs
     exact nd.2.2 b hb b (hsub b ⟨s,hbs⟩) rfl)
    have s2:=s1.put_rel i (.ref (N+i) []) (by simp only [upF];rw [if_neg (by omega)];exact ht1 i (by omega)) (.ref (V:=v) (u:=v) (by simp [upF]) rfl (by simp [B5,hu.1,hu.2]) .nil)
    have e:look (entry N i (v::r))=upF (upF (look (entry N (i+1) r)) (N+i) (.val v)) i (.ref (N+i) []):=by
     funext s
     simp only [entry,ho,if_true,look,upF]
     by_cases hsi:s=i
     ·subst hsi;simp
     ·rw [if_neg (Ne.symm hsi),if_neg hsi]
      by_cases hsn:s=N+i
      ·subst hsn;simp
      ·rw [if_neg (Ne.symm hsn),if_neg hsn]
    rw [e]
    refine ⟨_,s2,?_,?_,?_⟩
    ·rintro b ⟨s,hb⟩
     simp only [upF] at hb
     split at hb
     ·simp [hb]
     ·simp [hsub b ⟨s,hb⟩]
    ·intro s hs'
     simp only [upF];rw [if_neg (by omega),if_neg (by omega)];exact ht1 s (by omega)
    ·intro s hs1 hs2
     simp only [upF];rw [if_neg (by omega),if_neg (by omega)];exact ht2 s hs1 (by omega)
   ·have hn:v.hasOwn=false:=by simpa using ho
    have hf1:f1=[]:=h1.noOwn (by simp [A4,hn])
    subst hf1
    have s2:=hs.put_rel i (.val v) (ht1 i (by omega)) (.val hn (by rw [hu.1];exact h1) .nil)
    have e:look (entry N i (v::r))=upF (look (entry N (i+1) r)) i (.val v):=by
     funext s
     simp only [entry,hn,upF]
     by_cases hsi:s=i
     ·subst hsi;simp [look]
     ·simp [look,hsi,Ne.symm hsi]
    rw [e]
    refine ⟨_,s2,?_,?_,?_⟩
    ·intro b hb;simp [hsub b hb]
    ·intro s hs'
     simp only [upF];rw [if_neg (by omega)];exact ht1 s (by omega)
    ·intro s hs1 hs2
     simp only [upF];rw [if_neg (by omega)];exact ht2 s hs1 (by omega)
inductive RS where
 | t (s:Nat)
 | c (s n:Nat) (ag:Bool)
def Azr (σ:St):RS→Option A
 | .t s=>some (Ai σ (.t s))
 | .c s n ag=>match H8 σ (Ai σ (.t s)) with
   | some l=>Aat σ n ag l
   | none=>none
def Ats (σ:St):List RS→Option (List V×St)
 | []=>some ([],σ)
 | x::r=>match Azr σ x with
   | some y=>match Ie σ y with
     | some (v,σ1)=>match Ats σ1 r with
       | some (vs,σ2)=>some (v::vs,σ2)
       | none=>none
     | none=>none
   | none=>none
def M8 (P:Program) (N:Nat):List RS→List ResultVar→Bool
 | [],[]=>true
 | .t s::r,.tmp s'::rs=>s==s'&&decide (s<N)&&M8 P N r rs
 | .c s n ag::r,.cell s' t::rs=>s==s'&&decide (s<N)&&Abu P t n ag&&M8 P N r rs
 | _,_=>false
def Adn (tmps:Array Value):ResultVar→Sem Value
 | .tmp t=>pure (tmps.getD t undef)
 | .cell a t=>do loadVar t (←asAddr (tmps.getD a undef))
theorem A09 {P:Program} {a w O gv N vals} : ∀ {rs:List RS} {vars:List ResultVar} {σ fp Vs σ'},Ok σ a w O gv N vals fp→M8 P N rs vars=true→Ats σ rs=some (Vs,σ') →
  ∃us fp' fpV,(vars.mapM (Adn a.tmps)).run P w = .ok us w∧Ok σ' a w O gv N vals fp'∧RdL w O Vs us fpV∧fpV.Nodup∧(∀b∈fpV,Sof fp b∧¬Sof fp' b)∧(∀b,Sof fp' b→Sof fp b):=by
 intro rs
 induction rs with
 | nil=>
   intro vars σ fp Vs σ' h hf ht
   cases vars<;>simp [M8] at hf
   simp [Ats] at ht;obtain ⟨rfl,rfl⟩:=ht
   exact ⟨[],fp,[],by simp,h,.nil,by simp,by simp,fun _=>id⟩
 | cons x r ih=>
   intro vars σ fp Vs σ' h hf ht
   cases vars with
   | nil=>cases x<;>simp [M8] at hf
   | cons y ys=>
     simp only [Ats] at ht
     split at ht
     case h_2=>cases ht
     rename_i A hA
     split at ht
     case h_2=>cases ht
     rename_i v σ1 h1
     split at ht
     case h_2=>cases ht
     rename_i vs σ2 h2
     cases ht
     obtain ⟨u,hrun,hrel,hrest⟩ : ∃u,(Adn a.tmps y).run P w = .ok u w∧RelL w O (look σ) vals [A] [u]∧M8 P N r ys=true:=by
      cases x with
      | t s=>
        cases y with
        | tmp s'=>
          simp only [M8,Bool.and_eq_true,beq_iff_eq,decide_eq_true_eq] at hf
          obtain ⟨⟨rfl,hs⟩,hr⟩:=hf
          simp only [Azr,Option.some.injEq] at hA;subst hA
          exact ⟨_,rfl,Ap (o:= .tmp s) h (by simp [Au,hs]),hr⟩
        | cell=>simp [M8] at hf
      | c s n ag=>
        cases y with
        | tmp s'=>simp [M8] at hf
        | cell s' t=>
          simp only [M8,Bool.and_eq_true,beq_iff_eq,decide_eq_true_eq] at hf
          obtain ⟨⟨⟨rfl,hs⟩,hty⟩,hr⟩:=hf
          simp only [Azr] at hA
          split at hA
          case h_2=>cases hA
          rename_i l hl
          have hlr:=L8 h (Ap (o:= .tmp s) h (by simp [Au,hs])) hl
          obtain ⟨u,k1,k2⟩:=Aj5 h hty hlr hA
          obtain ⟨b,c,hv,_⟩:=R6 0 hlr
          have hv':a.tmps.getD s undef = .pointer (some ⟨b,c,none⟩):=hv
          have k1':(Instr.loadAt t (a.tmps.getD s undef)).run P w = .ok u w:=k1
          rw [hv'] at k1'
          refine ⟨u,?_,k2,hr⟩
          simp only [Adn,hv',asAddr,Sem.run_bind,Sem.run_pure,Result.andThen_ok]
          simpa [Instr.loadAt,Instr.sureAddr] using k1'
     obtain ⟨fp1,f1,o1,r1,n1,d1,s1⟩:=My h hrel h1
     obtain ⟨us,fp2,f2,hm,o2,r2,n2,d2,s2⟩:=ih o1 hrest h2
     refine ⟨u::us,fp2,f1++f2,by simp [List.mapM_cons,hrun,hm],o2,r1.append r2,?_,?_,fun b hb=>s1 b (s2 b hb)⟩
     ·refine List.nodup_append.2 ⟨n1,n2,?_⟩
      rintro b hb c hc rfl
      exact (d1 b hb).2 (d2 b hc).1
     ·intro b hb
      rcases List.mem_append.1 hb with hb | hb
      ·exact ⟨(d1 b hb).1,fun hh=>(d1 b hb).2 (s2 b hh)⟩
      ·exact ⟨s1 b (d2 b hb).1,(d2 b hb).2⟩
def Ah:List V→V
 | [v]=>v
 | vs=> .tup vs
def A4m (σ:St) (s:Nat):Option (V×St):=match look σ s with
 | .val _=>Fv σ (.ref s [])
 | .agg as=>Ie σ (.agg as)
 | _=>none
def Wi (N:Nat):St→Nat→List V→List V
 | _,_,[]=>[]
 | σ,i,v::r=>match v.hasOwn with
   | true=>(match A4m σ (N+i) with
     | some (U,σ1)=>U::Wi N σ1 (i+1) r
     | none=> .dead::Wi N σ (i+1) r)
   | false=> .dead::Wi N σ (i+1) r
theorem A0z {σ a w O gv N vals fp s U σ'} (h:Ok σ a w O gv N vals fp) (ht:A4m σ s=some (U,σ')) :
  ∃fp' fpV,Ok σ' a w O gv N vals fp'∧RdL w O [U] [vals s] fpV∧fpV.Nodup∧(∀b∈fpV,Sof fp b∧¬Sof fp' b)∧(∀b,Sof fp' b→Sof fp b):=by
 unfold A4m at ht
 split at ht
 ·exact Pi h (x:= .ref s []) (by simp [Pre,B5]) ht
 ·rename_i as hL
  have hr:=h.sim.rel s (by simp [hL])
  rw [hL] at hr
  exact My h hr ht
 cases ht
theorem A08 {a w O gv N vals} : ∀ {args:List V} {i:Nat} {us:List Value} {σ fp},Ok σ a w O gv N vals fp→us.length=args.length→(∀j u,us[j]? = some u→vals (N+i+j)=u) →
  ∃fp' fpo,RdL w O (Wi N σ i args) us fpo∧fpo.Nodup∧(∀b∈fpo,Sof fp b∧¬Sof fp' b)∧(∀b,Sof fp' b→Sof fp b):=by
 intro args
 induction args with
 | nil=>intro i us σ fp h hl _;cases us<;>simp at hl;exact ⟨fp,[],.nil,by simp,by simp,fun _=>id⟩
 | cons v r ih=>
   intro i us σ fp h hl hv
   cases us with
   | nil=>simp at hl
   | cons u us=>
     have hl':us.length=r.length:=by simpa using hl
     have hv' : ∀j x,us[j]? = some x→vals (N+(i+1)+j)=x:=by
      intro j x hx
      have:=hv (j+1) x (by simpa using hx)
      rw [show N+(i+1)+j=N+i+(j+1) by omega];exact this
     have hu:vals (N+i)=u:=by simpa using hv 0 u (by simp)
     have dead : ∃fp' fpo,RdL w O (V.dead::Wi N σ (i+1) r) (u::us) fpo∧fpo.Nodup∧(∀b∈fpo,Sof fp b∧¬Sof fp' b)∧(∀b,Sof fp' b→Sof fp b):=by
      obtain ⟨fp',fpo,h1,h2⟩:=ih h hl' hv'
      exact ⟨fp',fpo,.leaf (.dead u) h1,h2⟩
     simp only [Wi]
     split
     ·split
      ·rename_i U σ1 hU
       obtain ⟨fp1,f1,o1,r1,n1,d1,s1⟩:=A0z h hU
       rw [hu] at r1
       obtain ⟨fp2,f2,r2,n2,d2,s2⟩:=ih o1 hl' hv'
       refine ⟨fp2,f1++f2,r1.append r2,List.nodup_append.2 ⟨n1,n2,?_⟩,?_,fun b hb=>s1 b (s2 b hb)⟩
       ·rintro b hb c hc rfl
        exact (d1 b hb).2 (d2 b hc).1
       ·intro b hb
        rcases List.mem_append.1 hb with hb | hb
        ·exact ⟨(d1 b hb).1,fun hh=>(d1 b hb).2 (s2 b hh)⟩
        ·exact ⟨s1 b (d2 b hb).1,(d2 b hb).2⟩
      ·exact dead
     ·exact dead
def Ao9 (N:Nat) (rs:List RS) (args:List V) (R:V→List V→Prop):Ex→St→Prop
 | .exit _,_=>False
 | .normal,σ=>match Ats σ rs with
   | some (vs,σ')=>R (Ah vs) (Wi N σ' 0 args)
   | none=>False
 | .ret,σ=>match Ats σ rs with
   | some (vs,σ')=>R (Ah vs) (Wi N σ' 0 args)
   | none=>False
def A5 (P:Program) (f N:Nat) (ac:ACode) (rs:List RS):Bool:=match P.funcs[f]? with
 | some fn=>fn.ntmps==N && !(fn.name == "runtime.NumGoroutine")&&M8 P N rs fn.results.toList&&(match fn.body with
   | some c=>Ga P N ac c
   | none=>false)
 | none=>false
theorem Asa {P:Program} {fn:Func} {tmps:Array Value} {w:World} {us:List Value} (h:(fn.results.toList.mapM (Adn tmps)).run P w = .ok us w) :
  (results fn tmps).run P w = .ok (match us with | [u]=>u | us=> .tuple us.toArray) w:=by
 have e:results fn tmps=(fn.results.mapM (Adn tmps) >>= fun vs=>pure (if h:vs.size=1 then vs[0] else .tuple vs)):=by
  unfold results
  congr 1
 rw [e,Array.mapM_eq_mapM_toList]
 simp only [Sem.run_bind,Sem.run_map,h,Result.andThen_ok,Sem.run_pure]
 match us with
 | []=>rfl
 | [u]=>rfl
 | _::_::_=>simp
theorem Aw3 {P:Program} {f N:Nat} {ac:ACode} {rs:List RS} {args:List V} {R:V→List V→Prop} {σ0:St} {w:World} {O:Nat→Prop} {us:List Value} {fp:List Nat} (hf:A5 P f N ac rs=true) (hn:args.length≤N)
  (h:awp P ac (Ao9 N rs args R) σ0) (hrd:RdL w O args us fp) (hnd:fp.Nodup)
  (hent : ∀ {a0 gv vals fpf},Ok (entry N 0 args) a0 w O gv N vals fpf→(∀j u,us[j]? = some u→vals j=u∧vals (N+j)=u) → ∃vals' fpf',Ok σ0 a0 w O gv N vals' fpf' ∧ ∀b,Sof fpf' b→Sof fpf b) :
  (∃fn c,P.funcs[f]? = some fn∧(fn.name == "runtime.NumGoroutine")=false∧fn.body=some c) ∧
  Calls P f us.toArray w fun e w' => ∃res outs rv O' fpr fpo,R res outs∧e = .returned rv∧RdL w' O' [res] [rv] fpr∧RdL w' O' outs us fpo∧(fpr++fpo).Nodup ∧
   Mv w O (· ∈ fp) w' O' (· ∈ fpr++fpo):=by
 unfold A5 at hf
 split at hf
 case h_2=>cases hf
 rename_i fn hfn
 simp only [Bool.and_eq_true,beq_iff_eq,Bool.not_eq_true'] at hf
 obtain ⟨⟨⟨hN,hname⟩,hres⟩,hbody⟩:=hf
 split at hbody
 case h_2=>cases hbody
 rename_i c hc
 refine ⟨⟨fn,c,hfn,hname,hc⟩,?_⟩
 refine calls_of_wp hfn hc ?_
 have hul:=hrd.length
 have hsz:us.toArray.size≤fn.ntmps:=by simp;omega
 let a0:Act:={ tmps:=us.toArray++Array.replicate (fn.ntmps-us.toArray.size) undef,defers:=[] }
 let gv:Nat→Value:=fun s=>us.getD (s-N) undef
 let vals:Nat→Value:=fun s=>if s<N then a0.tmps.getD s undef else gv s
 have hvals : ∀j u,us[j]? = some u→vals (0+j)=u∧vals (N+0+j)=u:=by
  intro j u hj
  have hlt:j<us.length:=(List.getElem?_eq_some_iff.1 hj).1
  constructor
  ·simp only [vals,Nat.zero_add]
   rw [if_pos (by omega)]
   have:a0.tmps[j]? = some u:=by
    simp only [a0]
    rw [Array.getElem?_append_left (by simpa using hlt)]
    simpa using hj
   simp [this]
  ·simp only [vals,gv]
   rw [if_neg (by omega)]
   have e:N+0+j-N=j:=by omega
   rw [e,List.getD_eq_getElem?_getD,hj];rfl
 obtain ⟨fpf,hsim,hsub,_,_⟩:=Axk (N:=N) (i:=0) hrd hnd (by omega) hvals
 have hok:Ok (entry N 0 args) a0 w O gv N vals fpf:=
  ⟨hsim,fun s hs=>by simp [vals,hs],fun s hs=>by simp only [vals];rw [if_neg (by omega)],by simp [a0];omega,rfl⟩
 obtain ⟨vals2,fpf2,hok2,hsub2⟩:=hent hok (fun j u hj=>by simpa using hvals j u hj)
 replace hsub : ∀b,Sof fpf2 b→b∈fp:=fun b hb=>hsub b (hsub2 b hb)
 refine wp_mono (Axy ac hbody h hok2) ?_
 rintro e a' w' ⟨ex,σ',O',vals',fp',he,hq,ho,hm⟩
 have fin:(match Ats σ' rs with | some (vs,σ2)=>R (Ah vs) (Wi N σ2 0 args) | none=>False)→a'.defers=[] ∧ ∃v,(results fn a'.tmps).run P w' = .ok v w' ∧
   ∃res outs rv O' fpr fpo,R res outs∧Ending.returned v = .returned rv∧RdL w' O' [res] [rv] fpr∧RdL w' O' outs us fpo∧(fpr++fpo).Nodup∧Mv w O (· ∈ fp) w' O' (· ∈ fpr++fpo):=by
  intro hR
  split at hR
  case h_2=>exact hR.elim
  rename_i vs σ2 hT
  obtain ⟨rus,fp2,fpV,hrun,o2,rV,nV,dV,s2⟩:=A09 (P:=P) ho hres hT
  obtain ⟨_,fpo,ro,no,mo,_⟩:=A08 (i:=0) o2 (args:=args) (us:=us) hul (by
   intro j u hj
   rw [o2.hi _ (by omega)]
   have e:N+0+j-N=j:=by omega
   simp only [gv]
   rw [e,List.getD_eq_getElem?_getD,hj];rfl)
  refine ⟨ho.df,_,Asa hrun,Ah vs,_,_,O',fpV,fpo,hR,rfl,?_,ro,?_,?_⟩
  ·have hl:=rV.length
   match vs,rus,hl,rV with
   | [v],[u],_,rV=>exact rV
   | [],[],_,rV=>cases rV;exact .grp (fp1:=[]) (fp2:=[]) (.tup _ _) .nil .nil
   | v1::v2::r,u1::u2::q,_,rV=>
     have:=RdL.grp (.tup (v1::v2::r) (u1::u2::q)) rV .nil
     rw [List.append_nil] at this
     exact this
  ·refine List.nodup_append.2 ⟨nV,no,?_⟩
   rintro b hb c hc rfl
   exact (dV b hb).2 (mo b hc).1
  ·refine ⟨hm.os,hm.tape,hm.output,hm.size,fun b hb hS=>hm.same b hb fun hh=>hS (hsub b hh),fun b hb=> ?_⟩
   have:Sof fp' b:=by
    rcases List.mem_append.1 hb with h1 | h1
    ·exact (dV b h1).1
    ·exact s2 b (mo b h1).1
   exact (hm.new b this).imp (hsub b) id
 cases e with
 | normal=>simp only [Ab1,Option.some.injEq] at he;subst he;exact fin hq
 | ret=>simp only [Ab1,Option.some.injEq] at he;subst he;exact fin hq
 | exit i=>simp only [Ab1,Option.some.injEq] at he;subst he;exact hq.elim
 | goto l=>simp [Ab1] at he
 | panic ch=>simp [Ab1] at he
 | outgrown=>simp [Ab1] at he
theorem Ayd {P:Program} {f N:Nat} {ac:ACode} {rs:List RS} {args:List V} {R:V→List V→Prop} (hf:A5 P f N ac rs=true) (hn:args.length≤N)
  (h:awp P ac (Ao9 N rs args R) (entry N 0 args)):Tri P f args R:=
 fun _ _ _ _ hrd hnd=>Aw3 hf hn h hrd hnd fun ho _=>⟨_,_,ho,fun _=>id⟩
theorem Yy {d ls rs} {K K':St→Prop} {σ r o} (h : ∀σ,K σ→K' σ) (hr:Ff d ls rs K σ r o):Ff d ls rs K' σ r o:=by
 unfold Ff at *
 split at hr
 ·exact ⟨hr.1,h _ hr.2⟩
 ·refine ⟨hr.1,?_⟩
  have hr2:=hr.2
  split at hr2
  ·rename_i hout hT
   refine ⟨hr2.1,?_⟩
   have hr3:=hr2.2
   split at hr3
   ·exact h _ hr3
   exact hr3
  exact hr2
 ·refine ⟨hr.1,?_⟩
  have hr2:=hr.2
  split at hr2
  ·refine ⟨hr2.1,?_⟩
   have hr3:=hr2.2
   split at hr3
   ·exact h _ hr3
   exact hr3
  exact hr2
 exact hr.elim
theorem Ac2 {P f d as} {K K':St→Prop} {σ} (h : ∀σ,K σ→K' σ) (ha:Ig P f d as K σ):Ig P f d as K' σ:=by
 unfold Ig at *
 split at ha
 ·split at ha
  ·refine ⟨ha.1,ha.2.mono fun r o hr=> ?_⟩
   unfold Zk at *
   split at hr
   ·split at hr
    ·exact Yy h hr
    exact hr
   exact hr
  exact ha
 split at ha
 ·exact ⟨ha.1,ha.2.mono fun r o hr=>Yy h hr⟩
 exact ha
theorem Wo {P o} {K K':St→Prop} {σ} (h : ∀σ,K σ→K' σ) (ha:Sj P o K σ):Sj P o K' σ:=by
 unfold Sj at *
 split at ha
 ·exact Ac2 h ha
 ·split at ha
  ·exact Ac2 h ha
  exact ha
 ·split at ha
  ·split at ha
   ·split at ha
    ·exact ⟨ha.1,h _ ha.2.1,fun b c=>h _ (ha.2.2 b c)⟩
    exact ha
   exact ha
  exact ha
 split at ha
 ·exact h _ ha
 exact ha
theorem E5 {P} : ∀ {gs:List G} {K K':St→Prop} {σ},(∀σ,K σ→K' σ)→Cu P gs K σ→Cu P gs K' σ:=by
 intro gs
 induction gs with
 | nil=>intro K K' σ h ha;exact h _ ha
 | cons x r ih=>
   intro K K' σ h ha
   simp only [Cu] at *
   split at ha
   ·exact Wo (fun σ=>ih h) ha
   ·split at ha
    ·exact ⟨fun hb=>Wo (fun σ=>ih h) (ha.1 hb),fun hb=>ih h (ha.2 hb)⟩
    ·exact ih h ha
    ·exact ha
theorem Ab7 {P:Program} {o:AOp} {σ:St} {c c':Nat→A→List Nat→Prop} (h : ∀d a ks,c d a ks→c' d a ks) (ha:Qx P o σ c):Qx P o σ c':=by
 unfold Qx at *
 split at ha
 ·obtain ⟨h1,h2⟩:=ha
  refine ⟨h1,?_⟩
  split at h2
  ·obtain ⟨v,h3,h4⟩:=h2;exact ⟨v,h3,h _ _ _ h4⟩
  exact h2
 ·split at ha
  ·split at ha
   ·obtain ⟨v,h3,h4⟩:=ha;exact ⟨v,h3,h _ _ _ h4⟩
   exact ha
  exact ha
 ·split at ha
  ·split at ha
   ·exact ⟨ha.1,h _ _ _ ha.2⟩
   exact ha
  exact ha
 ·split at ha
  ·exact ⟨ha.1,h _ _ _ ha.2⟩
  exact ha
 ·split at ha
  ·split at ha
   ·exact h _ _ _ ha
   exact h _ _ _ ha
  exact ha
 split at ha
 ·exact h _ _ _ ha
 exact ha
theorem Agz {P:Program} {o:AOp} {s:Nat} {σ:St} {c c':Nat→V→Nat×V×Nat→Prop} (h : ∀d v x,c d v x→c' d v x) (ha:Yn P o s σ c):Yn P o s σ c':=by
 unfold Yn at *
 split at ha
 ·split at ha
  ·exact ha
  split at ha
  ·refine ⟨ha.1,?_⟩
   have h2:=ha.2
   split at h2
   ·obtain ⟨v,u,T',h3,h4,h5⟩:=h2
    exact ⟨v,u,T',h3,h4,h _ _ _ h5⟩
   exact h2
  exact ha
 exact ha
theorem Tb {P:Program} {ls:List Nat} {σ0:St} : ∀ {pre:List (G×List Nat)} {acc:St} {KS:List (List Nat)} {CS:List (List (Nat×V×Nat))} {K K':St→Prop},(∀σ,K σ→K' σ)→Gg P ls σ0 pre acc KS CS K→Gg P ls σ0 pre acc KS CS K':=by
 intro pre
 induction pre with
 | nil=>intro acc KS CS K K' h ha;exact ⟨ha.1,h _ ha.2⟩
 | cons x r ih=>
   intro acc KS CS K K' h ha
   obtain ⟨x,hide⟩:=x
   simp only [Gg] at *
   split at ha
   ·split at ha
    ·exact Ab7 (fun d a ks hh=>⟨hh.1,ih h hh.2⟩) ha
    ·exact Agz (fun d v c hh=>⟨hh.1,ih h hh.2⟩) ha
   ·obtain ⟨hlo,ha⟩:=ha
    refine ⟨hlo,?_⟩
    split at ha
    ·refine ⟨fun hb=>Ab7 (fun d a ks hh=>⟨hh.1,ih h hh.2⟩) (ha.1 hb),fun hb=> ?_⟩
     have h2:=ha.2 hb
     split at h2
     ·exact ⟨h2.1,ih h h2.2⟩
     ·exact h2
    ·split at ha
     ·exact ⟨ha.1,ih h ha.2⟩
     ·exact ha
    ·exact ha
theorem Aok {P:Program} {A:List (Nat×G)} {K K':St→Prop} (h : ∀σ,K σ→K' σ) : ∀ {pl:LPlan} {b:Bool} {σ},Pb P A K pl b σ→Pb P A K' pl b σ:=by
 intro pl
 induction pl with
 | nil=>intro b σ ha hb;exact h _ (ha hb)
 | alt i x xs ds nx ot ih1 ih2=>
   intro b σ ha
   exact ⟨⟨ha.1.1,E5 (fun σ=>ih1) ha.1.2⟩,ih2 ha.2⟩
theorem Aa1 : ∀ {A:List (Nat×G)} {K K':St→Prop} {σ},(∀σ,K σ→K' σ)→G8 A K σ→G8 A K' σ:=by
 intro A
 induction A with
 | nil=>intro K K' σ h ha;exact h _ ha
 | cons e r ih=>
   intro K K' σ h ha
   obtain ⟨i,x⟩:=e
   simp only [G8] at *
   split at ha
   ·split at ha
    ·exact ⟨ha.1,ih h ha.2⟩
    ·exact ha
   ·split at ha
    ·refine ⟨fun hb=> ?_,fun hb=>ih h (ha.2 hb)⟩
     have ha:=ha.1 hb
     split at ha
     ·exact ⟨ha.1,ih h ha.2⟩
     ·exact ha
    ·exact ih h ha
    ·exact ha
theorem Oz {n n':St→Prop} {Q Q':Ex→St→Prop} (h1 : ∀σ,n σ→n' σ) (h2 : ∀e σ,Q e σ→Q' e σ) : ∀e σ,Aax n Q e σ→Aax n' Q' e σ:=by
 intro e σ h
 cases e
 ·exact h1 σ h
 ·exact h2 _ σ h
 exact h2 _ σ h
theorem Sl {P} : ∀ {c:ACode} {Q Q':Ex→St→Prop} {σ},(∀e σ,Q e σ→Q' e σ)→awp P c Q σ→awp P c Q' σ:=by
 intro c
 induction c with
 | skip=>intro Q Q' σ h ha;exact h _ _ ha
 | reg gs=>intro Q Q' σ h ha;exact E5 (h .normal) ha
 | dreg pre post=>intro Q Q' σ h ha;exact Tb (fun σ=>E5 (h .normal)) ha
 | dregp n0 ds pre post=>intro Q Q' σ h ha;exact E5 (fun σ1 h1=>⟨h1.1,Tb (fun σ=>E5 (h .normal)) h1.2⟩) ha
 | dregl A R=>intro Q Q' σ h ha;exact Aa1 (fun _=>Aok (h .normal)) ha
 | seq a b ih1 ih2=>intro Q Q' σ h ha;exact ih1 (Oz (fun σ=>ih2 h) h) ha
 | cond x t e ih1 ih2=>
   intro Q Q' σ h ha
   simp only [awp] at *
   split at ha
   ·exact ⟨fun hb=>ih1 h (ha.1 hb),fun hb=>ih2 h (ha.2 hb)⟩
   ·exact ha
 | block i c ih=>
   intro Q Q' σ h ha
   refine ih ?_ ha
   intro e σ hq
   cases e with
   | normal=>exact h _ _ hq
   | exit j=>simp only [Aob] at *;split at hq<;>rename_i hj<;>simp only [hj,if_true,if_false]<;>exact h _ _ hq
   | ret=>exact h _ _ hq
 | loop c ih=>
   intro Q Q' σ h ha
   obtain ⟨ks,n,hl⟩:=ha
   refine ⟨ks,n,?_⟩
   have key : ∀n σ,Aau (awp P c) ks (less Q) n σ→Aau (awp P c) ks (less Q') n σ:=by
    intro n
    induction n with
    | zero=>intro σ hh;exact hh
    | succ n ihn=>intro σ hh;exact ih (Oz (fun σ=>ihn _) (Ano h)) hh
   exact key n _ hl
 | exit i=>intro Q Q' σ h ha;exact h _ _ ha
 | ret=>intro Q Q' σ h ha;exact h _ _ ha
 | drop ds c ih=>intro Q Q' σ h ha;exact ih h ha
 | cut c ih=>intro Q Q' σ h ha;exact ih (Ano h) ha
 | frz ss c ih=>intro Q Q' σ h ha;exact ih h ha
 | nam g1 g2 x k e=>intro Q Q' σ h ha;exact E5 (fun σ hh q n c=>E5 (h .normal) (hh q n c)) ha
theorem Ay7 {P c ks Q} : ∀ {n m σ},n≤m→Aau (awp P c) ks Q n σ→Aau (awp P c) ks Q m σ:=by
 intro n
 induction n with
 | zero=>intro m σ _ h;exact h.elim
 | succ n ih=>
   intro m σ hm h
   cases m with
   | zero=>omega
   | succ m=>exact Sl (Oz (fun σ=>ih (by omega)) fun _ _=>id) h
theorem Azv {P:Program} {c:ACode} {Q:Ex→St→Prop} {σ:St} (ks:List Nat) (I:Nat→St→Prop) (n:Nat) (h0:I n (restrict ks σ))
  (hr : ∀n σ,I n σ→awp P c (Aax (fun σ' => ∃m,m<n∧I m (restrict ks σ')) (less Q)) σ):awp P (.loop c) Q σ:=by
 refine ⟨ks,n+1,?_⟩
 have key : ∀n σ,I n σ→Aau (awp P c) ks (less Q) (n+1) σ:=by
  intro n
  induction n using Nat.strongRecOn with
  | _ n ih=>
    intro σ hI
    refine Sl (Oz ?_ fun _ _=>id) (hr n σ hI)
    rintro σ' ⟨m,hm,hI'⟩
    exact Ay7 (by omega) (ih m hm _ hI')
 exact key n _ h0
end Go.Proofs.Ytmmcfdfdacpjgaa.Ax
