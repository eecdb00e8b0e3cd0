/-
 Part of the proof; see the last text of the claim.
-/
import Derived.Test.YtaalgpkajkogkaaAx3
namespace Go.Proofs.Ytaalgpkajkogkaa.Ax
open Go
structure Br (b:Bool) (X Y:Prop):Prop where
 t:b=true->X
 f:b=false->Y
structure Ask (p X:Prop):Prop where
 p:p
 x:X
structure Elem (xs:List V) (j:Nat) (K:V->Prop):Prop where
 h:K (xs.getD j .dead)
structure Cells (xs:List V) (c n:Nat) (K:List V->Prop):Prop where
 h : ∃us,c+n<=xs.length/\(xs.drop c).take n=us/\K us
structure Kid (T:V) (c:Nat) (K:V->Prop):Prop where
 h : ∃k,T.stepOk=true/\T.kids[c]? = some k/\K k
structure SetKids (x:V) (c:Nat) (us:List V) (K:V->Prop):Prop where
 h : ∃x',x.setKids c us=some x'/\K x'
structure MkQ (d n:Nat) (z:V) (K:List V->Prop):Prop where
 h:K (List.replicate n z)
structure BslQ (d m:Nat) (us:List V) (K:List V->Prop):Prop where
 h:Vq m us=true/\K us
structure AppQ (d:Nat) (xs ys:List V) (K:List V->Prop):Prop where
 h:Em (Bo ys)=true/\xs.length+ys.length<=LIM/\K (xs++ys)
structure ApfQ (d:Nat) (xs ys:List V) (K:List V->Prop):Prop where
 h:Em (Bo ys)=true/\Bl (Bo ys)=false/\Bl (Bo xs)=false/\xs.length+ys.length<=LIM/\K (xs++ys)
structure SameT (u v:Value) (K:Prop):Prop where
 h:u=v/\K
structure NamQ (K:Option Addr->Nat->Nat->Prop):Prop where
 h : ∀q n c,K q n c
structure NoOwn (ys:List V) (X Y:Prop):Prop where
 h:(Bl (Bo ys)=false/\X)\/(Bl (Bo ys)=true/\Y)
structure SlcQ (xs:List V) (l h:Int) (K:List V->Prop):Prop where
 h:0<=l/\l<=h/\h<=(xs.length:Int)/\K ((xs.drop l.toNat).take (h.toNat-l.toNat))
structure Idx (j:Int) (lo n:Nat) (K:Int->Prop):Prop where
 h:lo<=j->j<n->K j
def Au:Nat->Nat->Nat
 | x,0=>x*0
 | x,1=>x
 | x,m+2=>x*(m+2)
theorem Aa (x:Nat):Au x 1=x:=rfl
theorem Uf (x m:Nat):Au x m=x*m:=by unfold Au;split<;>simp
def A7p (a b:Int):Int:=IntKind.i64.wrap (a*2^(min b.toNat IntKind.i64.bits))
def A77 (a b:Int):Int:=a.fdiv (2^(min b.toNat IntKind.i64.bits))
def A7d (a b:Int):Int:=IntKind.i64.wrap (BitVec.ofInt IntKind.i64.bits a &&& BitVec.ofInt IntKind.i64.bits b).toNat
def orI (a b:Int):Int:=IntKind.i64.wrap (BitVec.ofInt IntKind.i64.bits a ||| BitVec.ofInt IntKind.i64.bits b).toNat
def A76 (a b:Int):Int:=IntKind.i64.wrap (BitVec.ofInt IntKind.i64.bits a ^^^ BitVec.ofInt IntKind.i64.bits b).toNat
def A26 (a b:Int):Int:=IntKind.i64.wrap (BitVec.ofInt IntKind.i64.bits a &&& ~~~BitVec.ofInt IntKind.i64.bits b).toNat
theorem Br.beq {a b:Int} {X Y:Prop} (h1:a=b->X) (h2:a≠b->Y):Br (a==b) X Y:=⟨λh=>h1 (by simpa using h),λh=>h2 (by simpa using h)⟩
structure Len (xs:List V) (K:Nat->Prop):Prop where
 h:K xs.length
theorem Len.map {α:Type} {f:α->V} {xs:List α} {K:Nat->Prop} (h:K xs.length):Len (xs.map f) K:=⟨by rw [List.length_map];exact h⟩
theorem Br.yes {X Y:Prop} (h:X):Br true X Y:=⟨λ_=>h,λe=>Bool.noConfusion e⟩
theorem Br.no {X Y:Prop} (h:Y):Br false X Y:=⟨λe=>Bool.noConfusion e,λ_=>h⟩
theorem Br.prop {p:Prop} [Decidable p] {X Y:Prop} (h1:p->X) (h2:¬p->Y):Br (decide p) X Y:=⟨λh=>h1 (of_decide_eq_true h),λh=>h2 (of_decide_eq_false h)⟩
mutual
def Y8:A->(A->Prop)->Prop
 | .top,K=>K .top
 | .val v,K=>K (.val v)
 | .ref r p,K=>K (.ref r p)
 | .rfv v r p,K=>K (.rfv v r p)
 | .addr r p c,K=>K (.addr r p c)
 | .fad cs,K=>K (.fad cs)
 | .agg as,K=>Aoa as λbs=>K (.agg bs)
 | .clo f as,K=>Aoa as λbs=>K (.clo f bs)
def Aoa:List A->(List A->Prop)->Prop
 | [],K=>K []
 | a::r,K=>Y8 a λb=>Aoa r λs=>K (b::s)
end
mutual
theorem Ui:(a:A)->(K:A->Prop)->Y8 a K=K a
 | .top,_=>rfl
 | .val _,_=>rfl
 | .ref _ _,_=>rfl
 | .rfv _ _ _,_=>rfl
 | .addr _ _ _,_=>rfl
 | .fad _,_=>rfl
 | .agg as,K=>by simp only [Y8];rw [Aj0 as]
 | .clo f as,K=>by simp only [Y8];rw [Aj0 as]
theorem Aj0:(as:List A)->(K:List A->Prop)->Aoa as K=K as
 | [],_=>rfl
 | a::r,K=>by simp only [Aoa];rw [Ui a,Aj0 r]
end
def Ck:St->(St->Prop)->Prop
 | [],K=>K []
 | (k,a)::r,K=>Y8 a λb=>Ck r λs=>K ((k,b)::s)
theorem Bi : ∀(σ:St) (K:St->Prop),Ck σ K=K σ:=by
 intro σ
 induction σ with
 | nil=>intro K;rfl
 | cons e r ih=>intro K;obtain ⟨k,a⟩:=e;simp only [Ck];rw [Ui,ih]
def Aya (o:Option St) (K:St->Prop):Prop:=match o with
 | some σ=>Ck σ K
 | none=>False
theorem Aux {o:Option St} {K:St->Prop} (h:Aya o K) : ∃σ,o=some σ/\K σ:=by
 unfold Aya at h;split at h
 ·rw [Bi] at h;exact ⟨_,rfl,h⟩
 exact h.elim
def P8 (s:Nat) (b:Bool):St->St
 | []=>[]
 | (k,a)::r=>match Nat.beq k s with
   | true=>(k,.val (.bool b))::r
   | false=>(k,a)::P8 s b r
theorem Uh {s:Nat} {b:Bool} : ∀ {σ:St},look σ s = .val (.bool b)->P8 s b σ=σ:=by
 intro σ
 induction σ with
 | nil=>intro _;rfl
 | cons e r ih=>
   obtain ⟨k,a⟩:=e;intro h;simp only [look] at h;simp only [P8];by_cases hk:k=s
   ·rw [if_pos hk] at h;subst hk;rw [show Nat.beq k k=true by simp,h]
   ·rw [if_neg hk] at h;rw [show Nat.beq k s=false by
     cases hb:Nat.beq k s with
     | false=>rfl
     | true=>exact absurd (Nat.eq_of_beq_eq_true hb) hk]
    simp only [ih h]
def A7y (x:X) (b:Bool) (σ:St):St:=match x with
 | .t s=>P8 s b σ
 | .c _=>σ
def Xs:List Nat->V->(V->Prop)->Prop
 | [],T,K=>K T
 | c::p,T,K=>Kid T c λk=>Xs p k K
theorem Hn : ∀ {p:List Nat} {T:V} {K:V->Prop},Xs p T K -> ∃u,sub p T=some u/\K u:=by
 intro p
 induction p with
 | nil=>intro T K h;exact ⟨T,rfl,h⟩
 | cons c p ih=> intro T K h;obtain ⟨k,h1,h2,h3⟩:=h.h;obtain ⟨u,h4,h5⟩:=ih h3;exact ⟨u,by simp only [sub,h1,h2,if_true,h4],h5⟩
def Aa1 (T:A) (p:List Nat) (K:V->Prop):Prop:=match T with
 | .val V=>Xs p V K
 | _=>False
def Hs:List Nat->V->V->(V->Prop)->Prop
 | [],_,u,K=>K u
 | c::p,T,u,K=>Kid T c λk=>Hs p k u λk'=>SetKids T c [k'] K
theorem Ct : ∀ {p:List Nat} {T u:V} {K:V->Prop},Hs p T u K -> ∃T',upd p T u=some T'/\K T':=by
 intro p
 induction p with
 | nil=>intro T u K h;exact ⟨u,rfl,h⟩
 | cons c p ih=> intro T u K h;obtain ⟨k,h1,h2,h3⟩:=h.h;obtain ⟨k',h4,h5⟩:=ih h3;obtain ⟨T',h6,h7⟩:=h5.h;exact ⟨T',by simp only [upd,h2,h4,h6],h7⟩
theorem In {σ:St} {r:Nat} {p:List Nat} {K:V->Prop} (h:Aa1 (look σ r) p K) : ∃T u,look σ r = .val T/\sub p T=some u/\Cd σ r p=some u/\K u:=by
 unfold Aa1 at h;split at h
 ·rename_i T hT;obtain ⟨u,h1,h2⟩:=Hn h;exact ⟨T,u,hT,h1,by simp [Cd,hT,h1],h2⟩
 exact h.elim
def Aj4 (a b:A) (K:Int->Int->Prop) (E:Prop):Prop:=match a,b with
 | .val (.int .i64 x),.val (.int .i64 y)=>K x y
 | _,_=>E
abbrev InI (n:Int):Prop:= -9223372036854775808<=n/\n<=9223372036854775807
theorem Asb {a b:A} {K:Int->Int->Prop} {E:Prop} (h:Aj4 a b K E):(∃x y,a = .val (.int .i64 x)/\b = .val (.int .i64 y)/\K x y)\/E:=by
 unfold Aj4 at h;split at h
 ·exact .inl ⟨_,_,rfl,rfl,h⟩
 exact .inr h
def A7m (a b:A) (K:ByteArray->ByteArray->Prop) (E:Prop):Prop:=match a,b with
 | .val (.str x),.val (.str y)=>K x y
 | _,_=>E
theorem A1c {a b:A} {K:ByteArray->ByteArray->Prop} {E:Prop} (h:A7m a b K E):(∃x y,a = .val (.str x)/\b = .val (.str y)/\K x y)\/E:=by
 unfold A7m at h;split at h
 ·exact .inl ⟨_,_,rfl,rfl,h⟩
 exact .inr h
def J6 (o:Option (Nat×A)) (K:Nat->A->Prop):Prop:=match o with
 | some (d,a)=>Y8 a λb=>K d b
 | none=>False
theorem Jl {o:Option (Nat×A)} {K:Nat->A->Prop} (h:J6 o K) : ∃d a,o=some (d,a)/\K d a:=by
 unfold J6 at h;split at h
 ·rw [Ui] at h;exact ⟨_,_,rfl,h⟩
 exact h.elim
def A8l (d:Nat) (xs:List V) (K:Nat->A->Prop):Prop:=Len xs λn=>K d (.val (.int .i64 n))
def A5v (d m m':Nat) (xs:List V) (j:Int) (own:Option (Nat×List Nat)) (K:Nat->A->Prop):Prop:=match Nat.beq m' m with
 | true=>Len xs λn=>Ask (0<=j/\j<n) (match own with
   | none=>Elem xs j.toNat λu=>K d (.fad u.cells)
   | some (r,p)=>K d (.addr r p (Au j.toNat m)))
 | false=>False
structure LkQ {κ:Type} [DecidableEq κ] (es:List (κ×Lf)) (s:κ) (z:Lf) (ok:Bool) (K:V->Prop):Prop where
 h:K (Axm es s z ok)
structure MsQ {κ:Type} [DecidableEq κ] (es:List (κ×Lf)) (s:κ) (x:Lf) (K:List (κ×Lf)->Prop):Prop where
 h:K (Lv es s x)
structure LnQ {κ:Type} (es:List (κ×Lf)) (K:Nat->Prop):Prop where
 h:K es.length
def lkK (kd:Bool) (es:Es) (u:V) (z:Lf) (ok:Bool) (K:V->Prop):Prop:=match kd,es,u with
 | false,.s es,.str s=>LkQ es s z ok K
 | true,.i es,.int .i64 n=>LkQ es n z ok K
 | _,_,_=>False
theorem Av9 {kd es u z ok} {K:V->Prop} (h:lkK kd es u z ok K) : ∃v,A5s kd es u z ok=some v/\K v:=by
 unfold lkK at h;split at h
 ·exact ⟨_,rfl,h.h⟩
 ·exact ⟨_,rfl,h.h⟩
 exact h.elim
def msK (kd:Bool) (es:Es) (u:V) (x:Lf) (K:Es->Prop):Prop:=match kd,es,u with
 | false,.s es,.str s=>MsQ es s x λl=>K (.s l)
 | true,.i es,.int .i64 n=>MsQ es n x λl=>K (.i l)
 | _,_,_=>False
theorem A35 {kd es u x} {K:Es->Prop} (h:msK kd es u x K) : ∃es',A64 kd es u x=some es'/\K es':=by
 unfold msK at h;split at h
 ·exact ⟨_,rfl,h.h⟩
 ·exact ⟨_,rfl,h.h⟩
 exact h.elim
structure BsQ (xs:List V) (K:ByteArray->Prop):Prop where
 h : ∃ns,Tb xs=some ns/\K (Aa8 ns)
def Ay9 (d m:Nat) (xs:List V) (K:Nat->A->Prop):Prop:=match Nat.beq m 1 with
 | true=>BsQ xs λs=>K d (.val (.str s))
 | false=>False
structure FrzQ (T:V) (n:Nat) (K:V->Prop):Prop where
 h : ∃T',T.fzAt n=T'/\K T'
def Ak7 (o:AOp) (σ:St) (K:Nat->A->Prop):Prop:=match o with
 | .mlk d x k z ok kd=>match Am σ x,Am σ k with
   | .val (.mp o es),.val u=>(match o with
     | false=>lkK kd es u z ok λv=>K d (.val v)
     | true=>False)
   | .ref r p,.val u=>Aa1 (look σ r) p λn=>match n with
     | .mp _ es=>lkK kd es u z ok λv=>K d (.val v)
     | _=>False
   | _,_=>False
 | .bstr d x=>match Am σ x with
   | .val (.sl o m xs)=>(match o with
     | false=>Ay9 d m xs K
     | true=>False)
   | .ref r p=>Aa1 (look σ r) p λu=>match u with
     | .sl _ m xs=>Ay9 d m xs K
     | _=>False
   | _=>False
 | .bin d op x y=>match op with
   | .add=>A7m (Am σ x) (Am σ y) (λs t=>Ask (s.size+t.size<=9223372036854775807) (K d (.val (.str (s++t))))) (Aj4 (Am σ x) (Am σ y) (λa b=>Ask (InI (a+b)) (K d (.val (.int .i64 (a+b))))) (J6 (qR o σ) K))
   | .sub=>Aj4 (Am σ x) (Am σ y) (λa b=>Ask (InI (a-b)) (K d (.val (.int .i64 (a-b))))) (J6 (qR o σ) K)
   | .mul=>Aj4 (Am σ x) (Am σ y) (λa b=>Ask (InI (a*b)) (K d (.val (.int .i64 (a*b))))) (J6 (qR o σ) K)
   | .quo=>Aj4 (Am σ x) (Am σ y) (λa b=>Ask (b≠0/\InI (a.tdiv b)) (K d (.val (.int .i64 (a.tdiv b))))) (J6 (qR o σ) K)
   | .rem=>Aj4 (Am σ x) (Am σ y) (λa b=>Ask (b≠0) (K d (.val (.int .i64 (a.tmod b))))) (J6 (qR o σ) K)
   | .shl=>Aj4 (Am σ x) (Am σ y) (λa b=>Ask (0<=b) (K d (.val (.int .i64 (A7p a b))))) (J6 (qR o σ) K)
   | .shr=>Aj4 (Am σ x) (Am σ y) (λa b=>Ask (0<=b) (K d (.val (.int .i64 (A77 a b))))) (J6 (qR o σ) K)
   | .and=>Aj4 (Am σ x) (Am σ y) (λa b=>K d (.val (.int .i64 (A7d a b)))) (J6 (qR o σ) K)
   | .or=>Aj4 (Am σ x) (Am σ y) (λa b=>K d (.val (.int .i64 (orI a b)))) (J6 (qR o σ) K)
   | .xor=>Aj4 (Am σ x) (Am σ y) (λa b=>K d (.val (.int .i64 (A76 a b)))) (J6 (qR o σ) K)
   | .andNot=>Aj4 (Am σ x) (Am σ y) (λa b=>K d (.val (.int .i64 (A26 a b)))) (J6 (qR o σ) K)
   | _=>J6 (qR o σ) K
 | .pick d c x y=>match Am σ c with
   | .val (.bool b)=>Br b (J6 ((nt (Am σ x)).map (d,·)) K) (J6 ((nt (Am σ y)).map (d,·)) K)
   | _=>False
 | .iad d m x i=>match Am σ x,Am σ i with
   | .val (.sl _ m' xs),.val (.int _ j)=>A5v d m m' xs j none K
   | .ref r p,.val (.int _ j)=>Aa1 (look σ r) p λu=>match u with
     | .sl o m' xs=>match o with
       | true=>A5v d m m' xs j (some (r,p)) K
       | false=>False
     | _=>False
   | _,_=>False
 | .ld d n ag x=>match Ji σ (Am σ x) with
   | some (.own r p c)=>Aa1 (look σ r) p λu=>Cells u.kids c n λks=>Y8 (mkA ag (Wj r p c ks)) λb=>K d b
   | _=>J6 (qR o σ) K
 | .mk d m z x=>match Am σ x with
   | .val (.int _ n)=>Ask (0<=n/\n<=(LIM:Int)) (MkQ d n.toNat z.up λl=>K d (.val (.sl true m l)))
   | _=>False
 | .mkc d m _ x=>match Am σ x with
   | .val (.int _ n)=>Ask (0<=n/\n<=(LIM:Int)) (K d (.val (.sl true m [])))
   | _=>False
 | .bsl d m ps=>match Kw (ps.map (Am σ)) with
   | some Us=>BslQ d m (upL Us) λl=>K d (.val (.sl true m l))
   | none=>False
 | .bslr d m ps=>match Kw (ps.map (Am σ)) with
   | some Us=>BslQ d m (upL Us) λl=>FrzQ (.sl true m l) 0 λT'=>K d (.val T')
   | none=>False
 | .slc d m x lo hi=>match Am σ x with
   | .val (.ptr o (.agg cs))=>(match o with
     | true=>False
     | false=>(match Avr m cs (lo.map (Am σ)) (hi.map (Am σ)) with
       | true=>K d (.val (.sl false 1 cs))
       | false=>False))
   | .val (.sl o m' xs)=>(match o with
     | true=>False
     | false=>(match Nat.beq m' m with
       | true=>(match Agc 0 (lo.map (Am σ)) with
         | some l=>(match hi with
           | none=>Len xs λn=>SlcQ xs l n λys=>K d (.val (.sl false m ys))
           | some y=>(match A0u (Am σ y) with
             | some h=>SlcQ xs l h λys=>K d (.val (.sl false m ys))
             | none=>False))
         | none=>False)
       | false=>False))
   | _=>False
 | .len d x=>match Am σ x with
   | .val (.sl _ _ xs)=>A8l d xs K
   | .ref r p=>Aa1 (look σ r) p λu=>match u with
     | .sl _ _ xs=>A8l d xs K
     | _=>False
   | _=>J6 (qR o σ) K
 | .sidx d x i=>(match Am σ x,Am σ i with
   | .val (.str s),.val (.int _ j)=>Ask (0<=j/\j<(s.size:Int)) (K d (.val (.int .u8 (Alg s j))))
   | _,_=>False)
 | o=>J6 (qR o σ) K
theorem Asa {d m m':Nat} {xs:List V} {j:Int} {own:Option (Nat×List Nat)} {K:Nat->A->Prop} (h:A5v d m m' xs j own K):m'=m/\0<=j/\j<xs.length/\(match own with
  | none=>K d (.fad (xs.getD j.toNat .dead).cells)
  | some (r,p)=>K d (.addr r p (j.toNat*m))):=by
 unfold A5v at h;split at h
 ·rename_i hm;have h1:=h.h;refine ⟨Nat.eq_of_beq_eq_true hm,h1.p.1,h1.p.2,?_⟩;cases own with
  | none=>exact h1.x.h
  | some e=>have:=h1.x;simpa [Uf] using this
 exact h.elim
theorem Aon {d m:Nat} {xs:List V} {K:Nat->A->Prop} (h:Ay9 d m xs K) : ∃ns,m=1/\Tb xs=some ns/\K d (.val (.str (Aa8 ns))):=by
 unfold Ay9 at h;split at h
 ·rename_i hm;obtain ⟨ns,h1,h2⟩:=h.h;exact ⟨ns,Nat.eq_of_beq_eq_true hm,h1,h2⟩
 exact h.elim
theorem W6 {o:AOp} {σ:St} {K:Nat->A->Prop} (h:Ak7 o σ K) : ∃d a,qR o σ=some (d,a)/\K d a:=by
 unfold Ak7 at h;split at h
 ·rename_i d x k z ok kd;split at h
  ·rename_i o es s hx hk;split at h
   ·obtain ⟨v,h1,h2⟩:=Av9 h;exact ⟨_,_,by simp [qR,hx,hk,mpA,E1,h1],h2⟩
   exact h.elim
  ·rename_i r p s hx hk;obtain ⟨T,u,hT,hs,hn,hq⟩:=In h;split at hq
   ·obtain ⟨v,h1,h2⟩:=Av9 hq;exact ⟨_,_,by simp [qR,hx,hk,mpA,hn,E1,h1],h2⟩
   exact hq.elim
  exact h.elim
 ·rename_i d x;split at h
  ·rename_i o m xs hx;split at h
   ·obtain ⟨ns,h1,h2,h3⟩:=Aon h;subst h1;exact ⟨_,_,by simp [qR,hx,slA,h2],h3⟩
   exact h.elim
  ·rename_i r p hx;obtain ⟨T,u,hT,hs,hn,hq⟩:=In h;split at hq
   ·obtain ⟨ns,h1,h2,h3⟩:=Aon hq;subst h1;exact ⟨_,_,by simp [qR,hx,slA,hn,h2],h3⟩
   exact hq.elim
  exact h.elim
 ·rename_i d op x y;split at h
  case h_12=>exact Jl h
  case h_1=>
   rcases A1c h with ⟨s,t,ha,hb,hk⟩ | h
   ·exact ⟨_,_,by simp [qR,ha,hb,E1,V.isBool,U3,hk.p],hk.x⟩
   rcases Asb h with ⟨a,b,ha,hb,hk⟩ | h
   ·exact ⟨_,_,by simp [qR,ha,hb,E1,V.isBool,U3,Adn hk.p.1 hk.p.2],hk.x⟩
   ·exact Jl h
  all_goals
   rcases Asb h with ⟨a,b,ha,hb,hk⟩ | h
   case inr=>exact Jl h
  ·exact ⟨_,_,by simp [qR,ha,hb,E1,V.isBool,U3,Adn hk.p.1 hk.p.2],hk.x⟩
  ·exact ⟨_,_,by simp [qR,ha,hb,E1,V.isBool,U3,Adn hk.p.1 hk.p.2],hk.x⟩
  ·exact ⟨_,_,by simp [qR,ha,hb,E1,V.isBool,U3,hk.p.1,Adn hk.p.2.1 hk.p.2.2],hk.x⟩
  ·exact ⟨_,_,by simp [qR,ha,hb,E1,V.isBool,U3,hk.p],hk.x⟩
  ·exact ⟨d,.val (.int .i64 (A7p a b)),by simp [qR,ha,hb,E1,V.isBool,U3,Int.not_lt.2 hk.p,A7p],hk.x⟩
  ·exact ⟨d,.val (.int .i64 (A77 a b)),by simp [qR,ha,hb,E1,V.isBool,U3,Int.not_lt.2 hk.p,A77],hk.x⟩
  ·exact ⟨d,.val (.int .i64 (A7d a b)),by simp [qR,ha,hb,E1,V.isBool,U3,A7d],hk⟩
  ·exact ⟨d,.val (.int .i64 (orI a b)),by simp [qR,ha,hb,E1,V.isBool,U3,orI],hk⟩
  ·exact ⟨d,.val (.int .i64 (A76 a b)),by simp [qR,ha,hb,E1,V.isBool,U3,A76],hk⟩
  exact ⟨d,.val (.int .i64 (A26 a b)),by simp [qR,ha,hb,E1,V.isBool,U3,A26],hk⟩
 ·rename_i d c x y;split at h
  ·rename_i b hb;cases b
   ·obtain ⟨d',a,h1,h2⟩:=Jl (h.f rfl);exact ⟨d',a,by simp only [qR,hb];simpa using h1,h2⟩
   obtain ⟨d',a,h1,h2⟩:=Jl (h.t rfl);exact ⟨d',a,by simp only [qR,hb];simpa using h1,h2⟩
  exact h.elim
 ·rename_i d m x i;split at h
  ·rename_i hx hi;obtain ⟨h1,h2,h3,h4⟩:=Asa h;subst h1;exact ⟨_,_,by simp only [qR,hx,hi,h2,h3,and_self,if_true],h4⟩
  ·rename_i hx hi;obtain ⟨T,u,hT,hs,hn,hk⟩:=In h;split at hk
   case h_2=>exact hk.elim
   split at hk
   case h_2=>exact hk.elim
   obtain ⟨h1,h2,h3,h4⟩:=Asa hk;subst h1;exact ⟨_,_,by simp only [qR,hx,hi,hn,h2,h3,and_self,if_true],h4⟩
  exact h.elim
 ·rename_i d n ag x;split at h
  ·rename_i r p c hl;obtain ⟨T,u,hT,hs,hn,hk⟩:=In h;obtain ⟨ks,h1,h2,h3⟩:=hk.h;rw [Ui] at h3;subst h2;exact ⟨_,_,by simp [qR,hl,Ae6,hn,h1],h3⟩
  exact Jl h
 ·rename_i d m z x;split at h
  ·rename_i hx;exact ⟨_,_,by simp [qR,hx,h.p.1,h.p.2],h.x.h⟩
  exact h.elim
 ·rename_i d m z x;split at h
  ·rename_i hx;exact ⟨_,_,by simp [qR,hx,h.p.1,h.p.2],h.x⟩
  exact h.elim
 ·rename_i d m ps;split at h
  ·rename_i Us hU;exact ⟨_,_,by simp [qR,hU,h.h.1],h.h.2⟩
  exact h.elim
 ·rename_i d m ps;split at h
  ·rename_i Us hU;obtain ⟨T',e1,h1⟩:=h.h.2.h;rw [Ak] at e1;subst e1;exact ⟨_,_,by simp [qR,hU,h.h.1],h1⟩
  exact h.elim
 ·rename_i d m x lo hi;split at h
  case h_3=>exact h.elim
  case h_1=>
   rename_i o cs hx;split at h
   ·exact h.elim
   ·split at h
    case h_2=>exact h.elim
    rename_i hao;exact ⟨_,_,by simp only [qR,App,hx];rw [if_pos hao];rfl,h⟩
  rename_i o m' xs hx;split at h
  ·exact h.elim
  split at h
  case h_2=>exact h.elim
  rename_i hm;have hm':=Nat.eq_of_beq_eq_true hm;split at h
  case h_2=>exact h.elim
  rename_i l hl;split at h
  ·obtain ⟨h0,h1,h2,h3⟩:=h.h.h;have e2:Agc (xs.length:Int) ((none:Option X).map (Am σ))=some (xs.length:Int):=rfl;exact ⟨_,_,by simp only [qR,App,hx,hl,e2];rw [if_pos ⟨hm',h0,h1,h2⟩];rfl,h3⟩
  rename_i y;split at h
  case h_2=>exact h.elim
  rename_i hh hy;obtain ⟨h0,h1,h2,h3⟩:=h.h;have e2:Agc (xs.length:Int) ((some y).map (Am σ))=some hh:=hy;exact ⟨_,_,by simp only [qR,App,hx,hl,e2];rw [if_pos ⟨hm',h0,h1,h2⟩];rfl,h3⟩
 ·rename_i d x;split at h
  ·rename_i hx;exact ⟨_,_,by simp [qR,hx,Aj3],h.h⟩
  ·rename_i hx;obtain ⟨T,u,hT,hs,hn,hk⟩:=In h;split at hk
   case h_2=>exact hk.elim
   exact ⟨_,_,by simp [qR,hx,Aj3,hn],hk.h⟩
  exact Jl h
 ·rename_i d x i;split at h
  case h_2=>exact h.elim
  rename_i hx hi;exact ⟨_,_,by simp only [qR,hx,hi];rw [if_pos h.p],h.x⟩
 exact Jl h
def yK (σ:St) (m:Nat) (y:A) (K:List V->St->Prop):Prop:=match y with
 | .val (.sl _ m' ys)=>match Nat.beq m' m with
   | true=>K ys σ
   | false=>False
 | .val (.nilsl _)=>K [] σ
 | .ref r p=>Aa1 (look σ r) p λu=>match u with
   | .sl o m' ys=>match o with
     | true=>match Nat.beq m' m with
       | true=>NoOwn ys (K ys σ) (match Ia σ (.ref r p) with
         | some (_,σ1)=>K ys σ1
         | none=>False)
       | false=>False
     | false=>False
   | _=>False
 | _=>False
theorem Aug {σ:St} {m:Nat} {y:A} {K:List V->St->Prop} (h:yK σ m y K) : ∃ys σ1,yS σ m y=some (ys,σ1)/\K ys σ1:=by
 unfold yK at h;split at h
 ·split at h
  ·rename_i hm;exact ⟨_,_,by simp [yS,Nat.eq_of_beq_eq_true hm],h⟩
  exact h.elim
 ·exact ⟨_,_,by simp [yS],h⟩
 ·obtain ⟨T,u,hT,hs,hn,hk⟩:=In h;split at hk
  case h_2=>exact hk.elim
  split at hk
  case h_2=>exact hk.elim
  split at hk
  case h_2=>exact hk.elim
  rename_i hm;have hm':=Nat.eq_of_beq_eq_true hm;rcases hk.h with ⟨h1,h2⟩ | ⟨h1,h2⟩
  ·exact ⟨_,_,by simp [yS,hn,hm',h1],h2⟩
  split at h2
  ·rename_i U σ1 ht;exact ⟨_,_,by simp [yS,hn,hm',h1,ht],h2⟩
  exact h2.elim
 exact h.elim
def A7t:AOp->Bool
 | .mov .. => true
 | .pick .. => true
 | .bin .. => true
 | .binb .. => true
 | .un .. => true
 | .cnv .. => true
 | .len .. => true
 | .ext .. => true
 | .iad .. => true
 | .fadr .. => true
 | .ld .. => true
 | .nck .. => true
 | .mk .. => true
 | .mkc .. => true
 | .bslr .. => true
 | .alc .. => true
 | .mkf .. => true
 | .slc .. => true
 | .sidx .. => true
 | .mkm .. => true
 | .mlk .. => true
 | .bstr .. => true
 | _=>false
def holeW {α:Type} (f:α->V) (l:List α) (i:Nat) (v:V):List V:=(l.map f).set i v
def Atm (σ:St) (a:A) (K:V->St->Prop):Prop:=match a with
 | .ref r (c::p)=>(match look σ r with
   | .val T=>Xs (c::p) T λu=>Hs (c::p) T .dead λT'=>K u (turnP r T' (c::p) σ)
   | _=>False)
 | a=>match Kg σ a with
   | some (v,σ')=>K v σ'
   | none=>False
theorem Alh {σ:St} {a:A} {K:V->St->Prop} (h:Atm σ a K) : ∃v σ',Kg σ a=some (v,σ')/\K v σ':=by
 unfold Atm at h;split at h
 ·rename_i r c p;split at h
  case h_2=>exact h.elim
  rename_i T hT;obtain ⟨u,h1,h2⟩:=Hn h;obtain ⟨T',h3,h4⟩:=Ct h2;exact ⟨u,_,by simp only [Kg,Ia,hT,h1,h3],h4⟩
 split at h
 ·exact ⟨_,_,by assumption,h⟩
 exact h.elim
def A4s (o:AOp) (σ:St) (K:St->Prop):Prop:=match o with
 | .mup m k v kd=>match Am σ m,Am σ k,Am σ v with
   | .ref r p,.val s,.val u=>match vLf u with
     | some x=>match look σ r with
       | .val T=>Xs p T λnd=>match nd with
         | .mp o es=>(match o with
           | true=>msK kd es s x λes'=>Hs p T (.mp true es') λT'=>Ck (K6 r T' (p.length+1) σ) K
           | false=>False)
         | _=>False
       | _=>False
     | none=>False
   | _,_,_=>False
 | .bsl d m ps=>match Rk σ (ps.map (Am σ)) with
   | some (Us,σ1)=>BslQ d m Us λl=>Ck (A4 d (.val (.sl true m l)) σ1) K
   | none=>False
 | .app d m x y=>yK σ m (Am σ y) λys σ1=>Atm σ1 (Am σ1 x) λv σ2=>match v with
   | .sl o m' xs=>(match o with
     | true=>(match Nat.beq m' m with
       | true=>AppQ d xs ys λl=>Ck (A4 d (.val (.sl true m l)) σ2) K
       | false=>False)
     | false=>False)
   | _=>False
 | .apf d m x y e=>yK σ m (Am σ y) λys σ1=>match Am σ x,look σ1 e with
   | .val (.raw tv),.rfv tv' r (c::p)=>SameT tv tv' (match look (A4 e .top σ1) r with
     | .val T=>Xs (c::p) T λu=>match u with
       | .sl o m' xs=>(match o with
         | true=>(match Nat.beq m' m with
           | true=>Hs (c::p) T .dead λT0=>Hs (c::p) T0 (.sl false m xs) λT'=>ApfQ d xs ys λl=>Ck (A4 d (.val (.sl false m l)) (turnP r T' (c::p) (turnP r T0 (c::p) (A4 e .top σ1)))) K
           | false=>False)
         | false=>False)
       | _=>False
     | _=>False)
   | _,_=>False
 | .st n x v=>match Kg σ (Am σ v) with
   | some (U,σ1)=>match Ji σ1 (Am σ1 x) with
     | some (.own r p c)=>match look σ1 r with
       | .val T=>Xs p T λnd=>match nd.node&&decide (U.cells.length=n)&&Em U.cells with
         | true=>SetKids nd c U.cells λnd'=>Hs p T nd' λT'=>Ck (K6 r T' (p.length+1) σ1) K
         | false=>False
       | _=>False
     | _=>False
   | none=>False
 | o=>Aya (Ds o σ) K
theorem Au6 {o:AOp} {σ:St} {K:St->Prop} (h:A4s o σ K) : ∃σ',Ds o σ=some σ'/\K σ':=by
 unfold A4s at h;split at h
 ·rename_i m k v kd;split at h
  case h_2=>exact h.elim
  rename_i r p s u hm hk hv;split at h
  case h_2=>exact h.elim
  rename_i x hx;split at h
  case h_2=>exact h.elim
  rename_i T hT;obtain ⟨nd,hs,hq⟩:=Hn h;split at hq
  case h_2=>exact hq.elim
  rename_i o es;split at hq
  case h_2=>exact hq.elim
  obtain ⟨es',h0,hq⟩:=A35 hq;obtain ⟨T',h1,h2⟩:=Ct hq;rw [Bi] at h2;exact ⟨_,by simp [Ds,A5n,hm,hk,hv,hT,hs,E1,hx,h0,h1],h2⟩
 ·rename_i d m ps;split at h
  ·rename_i Us σ1 hU;obtain ⟨h1,h2⟩:=h.h;rw [Bi] at h2;exact ⟨_,by simp [Ds,Awd,hU,h1],h2⟩
  exact h.elim
 ·rename_i d m x y;obtain ⟨ys,σ1,hy,hk⟩:=Aug h;obtain ⟨v,σ2,hX,hk⟩:=Alh hk;split at hk
  case h_2=>exact hk.elim
  rename_i o m' xs;split at hk
  case h_2=>exact hk.elim
  split at hk
  case h_2=>exact hk.elim
  rename_i hm;have hm':=Nat.eq_of_beq_eq_true hm;obtain ⟨h1,h2,h3⟩:=hk.h;rw [Bi] at h3;exact ⟨_,by simp [Ds,A0y,hy,hX,hm',h1,h2],h3⟩
 ·rename_i d m x y e;obtain ⟨ys,σ1,hy,hk⟩:=Aug h;split at hk
  case h_2=>exact hk.elim
  rename_i tv tv' r c p hX hE;obtain ⟨etv,hk1⟩:=hk.h;clear hk;subst etv;split at hk1
  case h_2=>exact hk1.elim
  rename_i T hT;obtain ⟨u,hu,hk⟩:=Hn hk1;split at hk
  case h_2=>exact hk.elim
  rename_i o m' xs;split at hk
  case h_2=>exact hk.elim
  split at hk
  case h_2=>exact hk.elim
  rename_i hm;have hm':=Nat.eq_of_beq_eq_true hm;subst hm';obtain ⟨T0,hT0,hk⟩:=Ct hk;obtain ⟨T',hT',hk⟩:=Ct hk;obtain ⟨h1,h2,h3,h4,h5⟩:=hk.h;rw [Bi] at h5;refine ⟨_,?_,h5⟩;simp only [Ds,A47,hy,hX,hE];split
  ·simp only [hT,hu,hT0,hT',h1,h2,h3,h4,and_self,if_true]
  rename_i hne _;exact absurd rfl hne
 ·rename_i n x v;split at h
  case h_2=>exact h.elim
  rename_i U σ1 ht;split at h
  case h_2=>exact h.elim
  rename_i r p c hl;split at h
  case h_2=>exact h.elim
  rename_i T hT;obtain ⟨u,hs,hk⟩:=Hn h;split at hk
  case h_2=>exact hk.elim
  rename_i hc;obtain ⟨nd',h1,h2⟩:=hk.h;obtain ⟨T',h3,h4⟩:=Ct h2;rw [Bi] at h4;exact ⟨_,by simp only [Ds,Ath,ht,hl,hT,hs,hc,h1,h3,if_true],h4⟩
 exact Aux h
def Asp (o:AOp) (σ:St) (K:St->Prop):Prop:=match A7t o with
 | true=>Ak7 o σ λd a=>Ck (A4 d a σ) K
 | false=>A4s o σ K
theorem We {o:AOp} {σ:St} {K:St->Prop} (h:Asp o σ K) : ∃σ',Ds o σ=some σ'/\K σ':=by
 unfold Asp at h;split at h
 ·obtain ⟨d,a,h1,h2⟩:=W6 h;rw [Bi] at h2;exact ⟨_,(Atv h1).1,h2⟩
 exact Au6 h
structure CallQ (P:Program) (f d:Nat) (vs:List V) (ls:List (Nat×Nat×List Nat)) (rs:List Nat) (K:St->Prop) (σ:St):Prop where
 h:Nk σ ls rs=true/\Tri P f vs (Ga d ls rs K σ)
structure CallP (P:Program) (f d:Nat) (vs:List V) (rs:List Nat) (K:V->Prop):Prop where
 h : ∃v,Tri P f vs (λres _=>res=v/\Co rs v=true)/\K v
structure CloP (P:Program) (f d:Nat) (cs vs:List V) (rs:List Nat) (K:V->Prop):Prop where
 h : ∃v,Tri P f (vs++fzL cs) (λres _=>res=v/\Co rs v=true)/\K v
structure CloQ (P:Program) (f d:Nat) (cs vs:List V) (rs:List Nat) (K:St->Prop) (σ:St):Prop where
 h:Tri P f (vs++fzL cs) (Ga d [] rs K σ)
def Avq (σ:St) (a:A) (io:Bool) (k:Nat) (K:V->List (Nat×Nat×List Nat)->List Nat->Prop):Prop:=match a with
 | .val v=>K v.fz [] []
 | .ref r p=>Aa1 (look σ r) p λu=>match io&&u.node with
   | true=>K u [(k,r,p)] []
   | false=>K u.fz [] [r]
 | a=>match Qm σ a with
   | some v=>K v [] a.roots
   | none=>False
def Ahq (σ:St):List (A×Bool)->Nat->(List V->List (Nat×Nat×List Nat)->List Nat->Prop)->Prop
 | [],_,K=>K [] [] []
 | (a,io)::rest,k,K=>Avq σ a io k λv ls' rs'=>Ahq σ rest (k+1) λvs ls rs=>K (v::vs) (ls'++ls) (rs'++rs)
theorem Az5 {σ:St} {a:A} {io:Bool} {k:Nat} {K:V->List (Nat×Nat×List Nat)->List Nat->Prop} (h:Avq σ a io k K) :
  (∃r p u,io=true/\Vv σ a=some (r,p,u)/\K u [(k,r,p)] [])\/((io=true->Vv σ a=none) /\ ∃v,Qm σ a=some v/\K v [] a.roots):=by
 cases a with
 | val v=>exact .inr ⟨λ_=>rfl,_,rfl,h⟩
 | ref r p=>
   obtain ⟨T,u,hT,hs,hn,hk⟩:=In h;split at hk
   ·rename_i hb;simp only [Bool.and_eq_true] at hb;exact .inl ⟨r,p,u,hb.1,by simp [Vv,hn,hb.2],hk⟩
   ·rename_i hb;refine .inr ⟨λhi=> ?_,u.fz,by simp [Qm,hn],hk⟩;simp only [Vv,hn];cases hu:u.node with
    | false=>rfl
    | true=>rw [hi,hu] at hb;cases hb
 | top=>simp [Avq,Qm] at h
 | rfv v r p=>simp [Avq,Qm] at h
 | addr r p c=>simp [Avq,Qm] at h
 | fad cs=>simp [Avq,Qm] at h
 | agg as=>
   simp only [Avq] at h;split at h
   ·exact .inr ⟨λ_=>rfl,_,by assumption,h⟩
   ·exact h.elim
 | clo f as=>
   simp only [Avq] at h;split at h
   ·exact .inr ⟨λ_=>rfl,_,by assumption,h⟩
   ·exact h.elim
theorem Ro {σ:St} : ∀ {as:List (A×Bool)} {k:Nat} {K:List V->List (Nat×Nat×List Nat)->List Nat->Prop},Ahq σ as k K -> ∃vs ls rs,Ft σ as k=some (vs,ls,rs)/\K vs ls rs:=by
 intro as
 induction as with
 | nil=>intro k K h;exact ⟨[],[],[],rfl,h⟩
 | cons e rest ih=>
   intro k K h;obtain ⟨a,io⟩:=e;simp only [Ahq] at h;rcases Az5 h with ⟨r,p,u,h1,h2,h3⟩ | ⟨h1,v,h2,h3⟩
   ·obtain ⟨vs,ls,rs,h4,h5⟩:=ih h3;exact ⟨_,_,_,by simp [Ft,h4,h1,h2],h5⟩
   ·obtain ⟨vs,ls,rs,h4,h5⟩:=ih h3;refine ⟨_,_,_,?_,h5⟩;simp only [Ft,h4];have:(if io=true then Vv σ a else none)=none:=by split<;>simp_all
    simp [this,h2]
structure LendQ (P:Program) (f d n:Nat) (g:Option Nat) (bs:List A) (vs:List V) (ls:List (Nat×Nat×List Nat)) (rs:List Nat) (K:St->Prop) (σ:St):Prop where
 h:Nk σ ls rs=true/\Tri P f (Aw0 n bs.length g vs) (Xy n g (Ga d ls rs K σ))
structure CallT (P:Program) (f m j d:Nat) (vs:List V) (ls:List (Nat×Nat×List Nat)) (rs:List Nat) (K:St->Prop) (σ:St):Prop where
 h:Nk σ ls rs=true/\A1a P f m j vs (Ga d ls rs K σ)
def Azq (P:Program) (f d:Nat) (as:List (A×Bool)) (K:St->Prop) (σ:St):Prop:=match Nm as with
 | some (pre,g,bs,rest)=>Ahq σ (pre++(bs.map (·,true)++rest)) 0 λvs ls rs=>LendQ P f d pre.length g bs vs ls rs K σ
 | none=>Ahq σ as 0 λvs ls rs=>CallQ P f d vs ls rs K σ
structure CloV (P:Program) (d:Nat) (u:V) (vs:List V) (rs:List Nat) (K:St->Prop) (σ:St):Prop where
 h : ∃f cs,(u = .clo f cs\/u = .fclo f cs)/\Tri P f (vs++fzL cs) (Ga d [] rs K σ)
theorem CloV.f {P:Program} {f d:Nat} {cs vs:List V} {rs:List Nat} {K:St->Prop} {σ:St} (h:CloQ P f d cs vs rs K σ):CloV P d (.fclo f cs) vs rs K σ:=⟨f,cs,.inr rfl,h.h⟩
structure CloN (P:Program) (d:Nat) (as:List (A×Bool)) (ms:List Bool) (u:V) (r:Nat) (p:List Nat) (K:St->Prop) (σ:St):Prop where
 h : ∃tv f cs,u = .clov tv f cs/\J5 P f d (as++Ak8 ms (Wj r p 0 cs)) K σ
def opK (P:Program) (o:AOp) (σ:St) (K:St->Prop):Prop:=match o with
 | .call d f as=>Azq P f d (Fx σ as) K σ
 | .cally d x as ms=>match Am σ x with
   | .val u=>Ahq σ (Fx σ (as.map (·,false))) 0 λvs ls rs=>match ls with
     | []=>CloV P d u vs rs K σ
     | _=>False
   | .clo f cs=>Azq P f d (Fx σ (as.map (·,false))++Ak8 ms cs) K σ
   | .ref r p=>Aa1 (look σ r) p λu=>CloN P d (Fx σ (as.map (·,false))) ms u r p K σ
   | _=>False
 | .slc d m (.t s) lo hi=>(match look σ s with
   | .val T=>(match T.hasOwn with
     | true=>Ck (Akg s σ) λσ'=>Asp (.slc d m (.t s) lo hi) σ' K
     | false=>Asp (.slc d m (.t s) lo hi) σ K)
   | _=>Asp (.slc d m (.t s) lo hi) σ K)
 | o=>Asp o σ K
theorem Ak5 {P:Program} {f d:Nat} {as:List (A×Bool)} {K:St->Prop} {σ:St} (h:Azq P f d as K σ):J5 P f d as K σ:=by
 unfold Azq at h;unfold J5;split at h
 ·rename_i e;simp only [e];obtain ⟨vs,ls,rs,h1,h2⟩:=Ro h;rw [h1];exact h2.h
 rename_i e;simp only [e];obtain ⟨vs,ls,rs,h1,h2⟩:=Ro h;rw [h1];exact h2.h
theorem Akd {P:Program} {o:AOp} {σ:St} {K:St->Prop} (h:opK P o σ K):Aat P o K σ:=by
 unfold opK at h;unfold Aat;split at h
 ·exact Ak5 h
 ·split at h
  ·rename_i e;obtain ⟨vs,ls,rs,h1,h2⟩:=Ro h;split at h2
   case h_2=>exact h2.elim
   obtain ⟨f,cs,hu,ht⟩:=h2.h;rcases hu with rfl | rfl
   ·simp only [e,Asx,Acw];unfold J5;rw [Aga];simp only;rw [Zt (λk=>Afi _ k) h1];exact ⟨rfl,ht⟩
   simp only [e,Asx,Acw];unfold J5;rw [Aga];simp only;rw [Zt (λk=>Afi _ k) h1,Adf];exact ⟨rfl,ht⟩
  ·rename_i e;simp only [e,Asx,Acw];exact Ak5 h
  ·rename_i e;obtain ⟨T,u,hT,hs,hn,hk0⟩:=In h;obtain ⟨tv,f,cs,rfl,hk⟩:=hk0.h;simp only [e,Asx,hn,Acw];exact hk
  exact h.elim
 ·rename_i d m s lo hi;simp only [Ala];split at h
  ·rename_i T hT;simp only [hT];split at h
   ·rename_i ho;rw [Bi] at h;obtain ⟨σ',e,hk⟩:=We h;simp only [ho];rw [e];exact hk
   rename_i ho;obtain ⟨σ',e,hk⟩:=We h;simp only [ho];rw [e];exact hk
  rename_i hne;obtain ⟨σ',e,hk⟩:=We h;split
  ·rename_i σ2 he;split at he
   ·rename_i T hT;exact absurd hT (hne T)
   rw [e] at he;cases he;exact hk
  rename_i he;split at he
  ·rename_i T hT;exact absurd hT (hne T)
  rw [e] at he;cases he
 rename_i h1 h2 h3;obtain ⟨σ',e,hk⟩:=We h;have hp:Ala o σ=σ:=by
  unfold Ala;split
  ·exact absurd rfl (h3 _ _ _ _ _)
  ·rfl
 split
 ·exact absurd rfl (h1 _ _ _)
 ·exact absurd rfl (h2 _ _ _ _)
 rw [hp,e];exact hk
def Ax7 (P:Program) (o:AOp) (σ:St) (K:St->Prop):Prop:=match o with
 | .call d f as=>(match Aro as with
   | []=>opK P (.call d f as) σ K
   | _::_=>Ck (Af1 as σ) λτ=>opK P (.call d f as) τ K)
 | o=>opK P o σ K
theorem Ap2 {P:Program} {o:AOp} {σ:St} {K:St->Prop} (h:Ax7 P o σ K):Vh P o K σ:=by
 unfold Ax7 at h;unfold Vh;split at h
 ·simp only [Agz];split at h
  ·rename_i e;simp only [e];exact Akd h
  rename_i e;rw [Bi] at h;simp only [e];exact Akd h
 rename_i h1;have hp:Agz o σ=σ:=by
  unfold Agz;split
  ·exact absurd rfl (h1 _ _ _)
  ·rfl
 rw [hp];exact Akd h
def Vc (P:Program):List G->(St->Prop)->St->Prop
 | [],K,σ=>K σ
 | ⟨none,o⟩::r,K,σ=>Ax7 P o σ (Vc P r K)
 | ⟨some (s,true),o⟩::r,K,σ=>match look σ s with
   | .val (.bool b)=>Br b (Ck (P8 s true σ) λτ=>Ax7 P o τ (Vc P r K)) (Ck (Aci o (P8 s false σ)) (Vc P r K))
   | .val (.tup [])=>Ck (Aci o σ) (Vc P r K)
   | _=>False
 | ⟨some (s,false),o⟩::r,K,σ=>match look σ s with
   | .val (.bool b)=>Br b (Ck (Aci o (P8 s true σ)) (Vc P r K)) (Ck (P8 s false σ) λτ=>Ax7 P o τ (Vc P r K))
   | .val (.tup [])=>Ck (Aci o σ) (Vc P r K)
   | _=>False
theorem Wm {P:Program} : ∀ {gs:List G} {K:St->Prop} {σ:St},Vc P gs K σ->H4 P gs K σ:=by
 intro gs
 induction gs with
 | nil=>intro K σ h;exact h
 | cons x r ih=>
   intro K σ h;obtain ⟨g,o⟩:=x;have run : ∀ {τ},Ax7 P o τ (Vc P r K)->Vh P o (H4 P r K) τ:=λh=>Ny (λ_=>ih) (Ap2 h)
   match g,h with
   | none,h=>exact run h
   | some (s,true),h=>
     simp only [Vc] at h;simp only [H4];split at h
     ·rename_i b hb;simp only [hb];refine ⟨λe=> ?_,λe=> ?_⟩
      ·subst e;have:=h.t rfl;rw [Bi,Uh hb] at this;exact run this
      ·have e':b=false:=by simpa using e
       subst e';have:=h.f rfl;rw [Bi,Uh hb] at this;exact ih this
     ·rename_i hb;simp only [hb];rw [Bi] at h;exact ih h
     ·exact h.elim
   | some (s,false),h=>
     simp only [Vc] at h;simp only [H4];split at h
     ·rename_i b hb;simp only [hb];refine ⟨λe=> ?_,λe=> ?_⟩
      ·subst e;have:=h.f rfl;rw [Bi,Uh hb] at this;exact run this
      ·have e':b=true:=by simpa using e
       subst e';have:=h.t rfl;rw [Bi,Uh hb] at this;exact ih this
     ·rename_i hb;simp only [hb];rw [Bi] at h;exact ih h
     ·exact h.elim
def yNK (σ:St) (m s:Nat) (y:A) (K:List V->Prop):Prop:=match y with
 | .val (.sl _ m' ys)=>(match Nat.beq m' m with
   | true=>K ys
   | false=>False)
 | .val (.nilsl _)=>K []
 | .ref r p=>(match Nat.beq r s with
   | true=>False
   | false=>Aa1 (look σ r) p λu=>match u with
     | .sl o m' ys=>(match o with
       | true=>(match Nat.beq m' m with
         | true=>NoOwn ys (K ys) False
         | false=>False)
       | false=>False)
     | _=>False)
 | _=>False
theorem A4r {σ:St} {m s:Nat} {y:A} {K:List V->Prop} (h:yNK σ m s y K) : ∃ys,yN σ m s y=some ys/\K ys:=by
 unfold yNK at h;split at h
 ·split at h
  ·rename_i hm;exact ⟨_,by simp [yN,Nat.eq_of_beq_eq_true hm],h⟩
  exact h.elim
 ·exact ⟨_,by simp [yN],h⟩
 ·split at h
  ·exact h.elim
  rename_i hrs;obtain ⟨T,u,hT,hs,hn,hk⟩:=In h;split at hk
  case h_2=>exact hk.elim
  split at hk
  case h_2=>exact hk.elim
  split at hk
  case h_2=>exact hk.elim
  rename_i hm;have hm':=Nat.eq_of_beq_eq_true hm;have hne : ∀ {r:Nat},Nat.beq r s=false->r≠s:=by intro r h1 h2;subst h2;simp at h1
  rcases hk.h with ⟨h1,h2⟩ | ⟨_,h2⟩
  ·exact ⟨_,by simp [yN,hn,hm',h1,hne hrs],h2⟩
  exact h2.elim
 exact h.elim
def Aol:List Nat->(List Nat->Prop)->Prop
 | [],K=>K []
 | n::r,K=>Aol r λs=>K (n::s)
theorem Arw : ∀(l:List Nat) (K:List Nat->Prop),Aol l K=K l:=by
 intro l
 induction l with
 | nil=>intro K;rfl
 | cons n r ih=>intro K;simp only [Aol];rw [ih]
def Ax8 (P:Program) (o:AOp) (σ:St) (K:Nat->A->List Nat->Prop):Prop:=match o with
 | .call d f as=>match as.all (λe => !e.2) with
   | true=>Ahq σ (Fx σ as) 0 λvs ls rs=>match ls with
     | []=>CallP P f d vs rs λv=>K d (.val v) []
     | _=>False
   | false=>False
 | .cally d x as _=>(match Am σ x with
   | .val (.fclo f cs)=>Ahq σ (Fx σ (as.map (·,false))) 0 λvs ls rs=>match ls with
     | []=>CloP P f d cs vs rs λv=>K d (.val v) []
     | _=>False
   | _=>False)
 | .app d m (.t s) y=>(match look σ s with
   | .val (.sl o m' xs)=>(match o with
     | true=>(match Nat.beq m' m with
       | true=>yNK σ m s (Am σ y) λys=>AppQ d xs ys λl=>K d (.val (.sl true m l)) [s]
       | false=>False)
     | false=>False)
   | _=>False)
 | .bsl d m ps=>(match Tk σ ps with
   | some (Us,ks)=>BslQ d m Us λl=>Aol ks λks=>K d (.val (.sl true m l)) ks
   | none=>False)
 | .asg d (.t s)=>(match look σ s with
   | .val v=>(match v.hasOwn with
     | true=>Y8 (.val v) λa=>K d a [s]
     | false=>Y8 (.val v.up) λa=>K d a [])
   | _=>False)
 | o=>Ak7 o σ λd a=>K d a []
theorem Ats {P:Program} {o:AOp} {σ:St} {K:Nat->A->List Nat->Prop} (h:Ax8 P o σ K):T5 P o σ K:=by
 unfold Ax8 at h;unfold T5;split at h
 ·split at h
  case h_2=>exact h.elim
  rename_i hio;refine ⟨hio,?_⟩;obtain ⟨vs,ls,rs,h1,h2⟩:=Ro h;split at h2
  case h_2=>exact h2.elim
  rw [h1];exact h2.h
 ·split at h
  case h_2=>exact h.elim
  rename_i hx;obtain ⟨vs,ls,rs,h1,h2⟩:=Ro h;split at h2
  case h_2=>exact h2.elim
  simp only [hx,h1];exact h2.h
 ·split at h
  case h_2=>exact h.elim
  rename_i hL;split at h
  case h_2=>exact h.elim
  split at h
  case h_2=>exact h.elim
  rename_i hm;obtain ⟨ys,h1,h2⟩:=A4r h;simp only [hL,h1];obtain ⟨k1,k2,k3⟩:=h2.h;exact ⟨⟨trivial,Nat.eq_of_beq_eq_true hm,k1,k2⟩,k3⟩
 ·split at h
  case h_2=>exact h.elim
  rename_i ht;obtain ⟨k1,k2⟩:=h.h;rw [Arw] at k2;simp only [ht];exact ⟨k1,k2⟩
 ·split at h
  case h_2=>exact h.elim
  rename_i hL;split at h
  ·rename_i hv;rw [Ui] at h;simp only [hL,hv];exact h
  rename_i hv;rw [Ui] at h;simp only [hL,hv];exact h
 rename_i h1 h0 h2 h3 h4;obtain ⟨d,a,e,hk⟩:=W6 h;split
 ·exact absurd rfl (h1 _ _ _)
 ·exact absurd rfl (h0 _ _ _ _)
 ·exact absurd rfl (h2 _ _ _ _)
 ·exact absurd rfl (h3 _ _ _)
 ·exact absurd rfl (h4 _ _)
 rw [e];exact hk
def hk (hide kl:List Nat):List Nat:=match kl with
 | []=>hide
 | k::r=>hide++(k::r)
theorem Awo (hide kl:List Nat):hk hide kl=hide++kl:=by
 cases kl with
 | nil=>simp [hk]
 | cons k r=>rfl
def A30 (acc:St) (kl:List Nat):Bool:=match kl with
 | []=>true
 | k::r=>R0 acc (k::r)
theorem Aso {acc:St} {kl:List Nat} (h:A30 acc kl=true):R0 acc kl=true:=by
 cases kl with
 | nil=>unfold R0;simp
 | cons k r=>exact h
def Azf (kl:List Nat) (acc:St):St:=match kl with
 | []=>acc
 | k::r=>Fp (k::r) acc
theorem Au5 (kl:List Nat) (acc:St):Azf kl acc=Fp kl acc:=by
 cases kl with
 | nil=>
   simp only [Azf]
   induction acc with
   | nil=>rfl
   | cons e r ih=>obtain ⟨d,a⟩:=e;simp [Fp,<-ih]
 | cons k r=>rfl
structure LendP (P:Program) (f d:Nat) (vs:List V) (rs:List Nat) (k:Nat) (p:List Nat) (T:V) (K:V->V->Prop):Prop where
 h : ∃v u T',Tri P f vs (λres outs=>res=v/\outs[k]? = some u)/\(Co rs v=true/\Co rs u=true/\u.node=true/\upd p T u=some T')/\K v T'
def Asu (P:Program) (o:AOp) (s:Nat) (σ:St) (K:Nat->V->Nat×V×Nat->Prop):Prop:=match o with
 | .call d f as=>(match Nm (Fx σ as) with
   | some _=>False
   | none=>Ahq σ (Fx σ as) 0 λvs ls rs=>match ls with
     | [(k,r,p)]=>(match Nat.beq r s && !rs.contains r with
       | true=>(match look σ r with
         | .val T=>LendP P f d vs rs k p T λv T'=>K d v (r,T',p.length+1)
         | _=>False)
       | false=>False)
     | _=>False)
 | _=>False
theorem Aqw {P:Program} {o:AOp} {s:Nat} {σ:St} {K:Nat->V->Nat×V×Nat->Prop} (h:Asu P o s σ K):Acf P o s σ K:=by
 unfold Asu at h;unfold Acf;split at h
 case h_2=>exact h.elim
 split at h
 ·exact h.elim
 rename_i hgv;obtain ⟨vs,ls,rs,h1,h2⟩:=Ro h;split at h2
 case h_2=>exact h2.elim
 rename_i k r p;split at h2
 case h_2=>exact h2.elim
 rename_i hb;simp only [Bool.and_eq_true,Bool.not_eq_true'] at hb;split at h2
 case h_2=>exact h2.elim
 rename_i T hT;simp only [hgv,h1,hT];exact ⟨⟨Nat.eq_of_beq_eq_true hb.1,hb.2⟩,h2.h⟩
def Ap1 (ls hide:List Nat) (cs:List (Nat×V×Nat)) (σ:St):St:=match ls with
 | []=>σ
 | l::q=>Q3 (l::q) hide cs σ
theorem A1p (σ:St):Ae7 [] σ=σ:=by
 induction σ with
 | nil=>rfl
 | cons e r ih=> obtain ⟨k,a⟩:=e;simp [Ae7,ih]
theorem A3r {ls hide:List Nat} {cs:List (Nat×V×Nat)} {σ:St} (hc : ∀c∈cs,ls.contains c.1=true):Ap1 ls hide cs σ=Q3 ls hide cs σ:=by
 cases ls with
 | nil=>
   have:cs=[]:=by
    cases cs with
    | nil=>rfl
    | cons c q=>have:=hc c (by simp);simp at this
   subst this;simp only [Ap1,Q3,List.filter_nil,Ht];have:(List.filter (λx=>([]:List Nat).contains x) hide)=[]:=by simp
   rw [this,A1p]
 | cons l q=>rfl
abbrev Ayd:=St->List Nat->List (Nat×V×Nat)->(St->Prop)->Prop
def Azm (σ0 acc:St) (o:AOp) (hide kl:List Nat) (cs:List (Nat×V×Nat)) (K:St->Prop) (ih:Ayd) (acc1:St) (d:Nat) (a:A) (ks:List Nat):Prop:=match Wr d acc σ0 with
 | true=>(match ks with
   | []=>Ck (acc1++[(d,a.mapR (Ay d 0))]) λacc'=>ih acc' kl cs K
   | k::q=>(match Agf (k::q) o (Fp (hk hide kl) acc) with
     | true=>Ck (acc1++[(d,a.mapR (Ay d 0))]) λacc'=>Aol (kl++(k::q)) λkl'=>ih acc' kl' cs K
     | false=>False))
 | false=>False
def Adh (σ0 acc:St) (o:AOp) (kl:List Nat) (cs:List (Nat×V×Nat)) (K:St->Prop) (ih:Ayd) (acc1:St):Prop:=match o.dst with
 | some d=>(match Wr d acc σ0 with
   | true=>Ck (acc1++[(d,.val (.tup []))]) λacc'=>ih acc' kl cs K
   | false=>False)
 | none=>False
def Apf (P:Program) (ls:List Nat) (σ0 acc:St) (o:AOp) (hide kl:List Nat) (cs:List (Nat×V×Nat)) (K:St->Prop) (ih:Ayd) (acc1:St):Prop:=
 Ck (Fp (hk hide kl) acc1++Ap1 ls hide cs σ0) λσh=>Ax8 P o σh (Azm σ0 acc o hide kl cs K ih acc1)
def Azl (P:Program) (ls:List Nat) (σ0 acc:St) (o:AOp) (s:Nat) (hide kl:List Nat) (cs:List (Nat×V×Nat)) (K:St->Prop) (ih:Ayd):Prop:=
 Ck (Fp (hk hide kl) acc++Ap1 ls hide.tail cs σ0) λσh=>Asu P o s σh λd v c=>match Wr d acc σ0&&ls.contains s&&Ax5 (look σ0 s)&&Nat.beq c.1 s with
  | true=>Ck (acc++[(d,.val v)]) λacc'=>ih acc' kl (cs++[c]) K
  | false=>False
def Ai1 (P:Program) (ls:List Nat) (σ0:St) (x:G×List Nat) (ih:Ayd) (acc:St) (kl:List Nat) (cs:List (Nat×V×Nat)) (K:St->Prop):Prop:=match x with
 | (⟨none,o⟩,hide)=>(match Qh o hide with
   | []=>Apf P ls σ0 acc o hide kl cs K ih acc
   | s::_=>Azl P ls σ0 acc o s hide kl cs K ih)
 | (⟨some (s,true),o⟩,hide)=>(match (hk hide kl).contains s || !(Qh o hide).isEmpty with
   | true=>False
   | false=>(match look (Fp (hk hide kl) acc++Ap1 ls hide cs σ0) s with
     | .val (.bool b)=>Br b (Apf P ls σ0 acc o hide kl cs K ih (P8 s true acc)) (Adh σ0 acc o kl cs K ih (P8 s false acc))
     | .val (.tup [])=>Adh σ0 acc o kl cs K ih acc
     | _=>False))
 | (⟨some (s,false),o⟩,hide)=>(match (hk hide kl).contains s || !(Qh o hide).isEmpty with
   | true=>False
   | false=>(match look (Fp (hk hide kl) acc++Ap1 ls hide cs σ0) s with
     | .val (.bool b)=>Br b (Adh σ0 acc o kl cs K ih (P8 s true acc)) (Apf P ls σ0 acc o hide kl cs K ih (P8 s false acc))
     | .val (.tup [])=>Adh σ0 acc o kl cs K ih acc
     | _=>False))
def Ayv (σ0 acc:St) (kl:List Nat) (cs:List (Nat×V×Nat)) (K:St->Prop):Prop:=match A30 acc kl with
 | true=>(match cs with
   | []=>Ck (Azf kl acc++σ0) K
   | c::q=>(match Alb acc (c::q) with
     | true=>Ck (Azf kl acc++Ht (c::q) σ0) K
     | false=>False))
 | false=>False
def Aw7 (P:Program) (ls:List Nat) (σ0:St) (l:List (G×List Nat)):Ayd:=
 List.rec (motive:=λ_=>Ayd) (Ayv σ0) (λx _ ih=>Ai1 P ls σ0 x ih) l
theorem Z1 {hide:List Nat} {acc σ0:St} {s:Nat} {b:Bool} (h:look (Fp hide acc++σ0) s = .val (.bool b)) (hh:hide.contains s=false):P8 s b acc=acc:=by
 rw [Hf] at h;split at h
 ·rw [Afm _ _ _ hh] at h;exact Uh h
 rename_i hk;rw [Adm] at hk;have hk':Bk s acc=false:=by rw [hh] at hk;simpa using hk
 clear h hk
 induction acc with
 | nil=>rfl
 | cons e r ih=>
   obtain ⟨k,a⟩:=e;simp only [Bk,Bool.or_eq_false_iff,beq_eq_false_iff_ne] at hk';simp only [P8];rw [show Nat.beq k s=false by
    cases hb:Nat.beq k s with
    | false=>rfl
    | true=>exact absurd (Nat.eq_of_beq_eq_true hb) hk'.1]
   simp only [ih hk'.2]
theorem Ayk {P:Program} {o:AOp} {σ:St} {c c':Nat->A->List Nat->Prop} (h : ∀d a ks,c d a ks->c' d a ks) (ha:T5 P o σ c):T5 P o σ c':=Agv h ha
theorem Aw6 {P:Program} {ls:List Nat} {σ0:St} : ∀ {l:List (G×List Nat)} {acc:St} {kl:List Nat} {cs:List (Nat×V×Nat)} {KS:List (List Nat)} {CS:List (List (Nat×V×Nat))} {K:St->Prop},KS.flatten=kl->CS.flatten=cs->(∀c∈cs,ls.contains c.1=true)->Aw7 P ls σ0 l acc kl cs K->Ip P ls σ0 l acc KS CS K:=by
 intro l
 induction l with
 | nil=>
   intro acc kl cs KS CS K hkl hcs hin h;subst hkl;change Ayv σ0 acc KS.flatten cs K at h;simp only [Ayv] at h;split at h
   ·rename_i hr;split at h
    ·rw [Bi,Au5] at h;refine ⟨⟨Aso hr,?_⟩,?_⟩
     ·rw [hcs];unfold Alb;simp
     ·rw [hcs];exact h
    ·split at h
     ·rename_i hr2;rw [Bi,Au5] at h;rw [<-hcs] at h hr2;exact ⟨⟨Aso hr,hr2⟩,h⟩
     ·exact h.elim
   ·exact h.elim
 | cons x r ih=>
   intro acc kl cs KS CS K hkl hcs hin h;subst hkl;obtain ⟨⟨g,o⟩,hide⟩:=x;change Ai1 P ls σ0 (⟨g,o⟩,hide) (Aw7 P ls σ0 r) acc KS.flatten cs K at h;have hbk : ∀hide,Ap1 ls hide cs σ0=Q3 ls hide CS.flatten σ0:=λhide=>by rw [A3r hin,hcs]
   have run:Apf P ls σ0 acc o hide KS.flatten cs K (Aw7 P ls σ0 r) acc->T5 P o (Fp (hide++KS.flatten) acc++Q3 ls hide CS.flatten σ0) λd a ks=>(Wr d acc σ0=true/\Agf ks o (Fp (hide++KS.flatten) acc)=true)/\Ip P ls σ0 r (acc++[(d,a.mapR (Ay d 0))]) (KS++[ks]) (CS++[[]]) K:=by
    intro h;unfold Apf at h;rw [Bi,Awo,hbk] at h;refine Ayk ?_ (Ats h);intro d a ks hk;unfold Azm at hk;rw [Awo] at hk;split at hk
    ·rename_i hf;split at hk
     ·rw [Bi] at hk;exact ⟨⟨hf,rfl⟩,ih (by simp) (by simp [hcs]) hin hk⟩
     ·split at hk
      ·rename_i hkk;rw [Bi,Arw] at hk;exact ⟨⟨hf,hkk⟩,ih (by simp) (by simp [hcs]) hin hk⟩
      ·exact hk.elim
    ·exact hk.elim
   have skip:Adh σ0 acc o KS.flatten cs K (Aw7 P ls σ0 r) acc->(match o.dst with
      | some d=>Wr d acc σ0=true/\Ip P ls σ0 r (acc++[(d,.val (.tup []))]) (KS++[[]]) (CS++[[]]) K
      | none=>False):=by
    intro h;unfold Adh at h;cases hd:o.dst with
    | none=>rw [hd] at h;exact h.elim
    | some d=>
      rw [hd] at h;cases hf:Wr d acc σ0 with
      | false=>simp only [hf] at h
      | true=> simp only [hf] at h;rw [Bi] at h;exact ⟨hf,ih (by simp) (by simp [hcs]) hin h⟩
   match g,h with
   | none,h=>
     simp only [Ai1] at h;simp only [Ip];cases hlo:Qh o hide with
     | nil=>rw [hlo] at h;exact run h
     | cons s q=>
       rw [hlo] at h;simp only at h ⊢;unfold Azl at h;rw [Bi,Awo,hbk] at h;refine Aln ?_ (Aqw h);intro d v c hc;split at hc
       case h_2=>exact hc.elim
       rename_i hcond;simp only [Bool.and_eq_true] at hcond;rw [Bi] at hc;refine ⟨⟨hcond.1.1.1,hcond.1.1.2,hcond.1.2⟩,ih (by simp) (by simp [hcs]) ?_ hc⟩;intro c' hc';rcases List.mem_append.1 hc' with h1 | h1
       ·exact hin c' h1
       ·simp at h1;subst h1;rw [Nat.eq_of_beq_eq_true hcond.2];exact hcond.1.1.2
   | some (s,true),h=>
     simp only [Ai1,Awo,hbk] at h;simp only [Ip];split at h
     ·exact h.elim
     rename_i hh;simp only [Bool.or_eq_false_iff,Bool.not_eq_false',List.isEmpty_iff] at hh;refine ⟨hh.2,?_⟩;replace hh:=hh.1;split at h
     ·rename_i b hb;simp only [hb];refine ⟨λe=> ?_,λe=> ?_⟩
      ·subst e;have:=h.t rfl;rw [Z1 hb hh] at this;exact run this
      ·have e':b=false:=by simpa using e
       subst e';have:=h.f rfl;rw [Z1 hb hh] at this;exact skip this
     ·rename_i hb;simp only [hb];exact skip h
     ·exact h.elim
   | some (s,false),h=>
     simp only [Ai1,Awo,hbk] at h;simp only [Ip];split at h
     ·exact h.elim
     rename_i hh;simp only [Bool.or_eq_false_iff,Bool.not_eq_false',List.isEmpty_iff] at hh;refine ⟨hh.2,?_⟩;replace hh:=hh.1;split at h
     ·rename_i b hb;simp only [hb];refine ⟨λe=> ?_,λe=> ?_⟩
      ·subst e;have:=h.f rfl;rw [Z1 hb hh] at this;exact run this
      ·have e':b=true:=by simpa using e
       subst e';have:=h.t rfl;rw [Z1 hb hh] at this;exact skip this
     ·rename_i hb;simp only [hb];exact skip h
     ·exact h.elim
structure SameQ (x y:A) (K:Prop):Prop where
 h:x=y/\K
def As5 (A:List (Nat×AOp)) (K:St->Prop):St->Prop:=
 List.rec (motive:=λ_=>St->Prop) K (λe _ ih σ=>Ak7 e.2 σ λd a=>match Afg a with
  | true=>Ck (A4 d a σ) ih
  | false=>False) A
def Ap0 (xs:List Nat) (σ:St) (K:Prop) (A:List (Nat×AOp)):Prop:=
 List.rec (motive:=λ_=>Prop) K (λe _ ih=>match xs.contains e.1 with
  | true=>Ak7 e.2 σ λd a=>match Au1 a d σ with
    | true=>SameQ (look σ d) a ih
    | false=>False
  | false=>ih) A
def Adi (P:Program) (o:AOp) (ds:List Nat) (σ:St) (K:St->Prop):Prop:=match ds with
 | []=>Ax7 P o σ K
 | s::q=>(match o with
   | .app d m x y=>yK σ m (Am σ y) λys σ1=>Atm σ1 (Am σ1 x) λv σ2=>match v with
     | .sl o m' xs=>(match o with
       | true=>(match Nat.beq m' m with
         | true=>AppQ d xs ys λl=>Ck (Tv (s::q) (A4 d (.val (.sl true m l)) σ2)) K
         | false=>False)
       | false=>False)
     | _=>False
   | _=>False)
theorem A0o (σ:St):Tv [] σ=σ:=by
 have key : ∀a:A,a.mapR (Aod [])=a:=by
  intro a;have e:Aod []=λr _=>some r:=by funext r p;simp [Aod]
  rw [e];exact Azz a
 induction σ with
 | nil=>rfl
 | cons e r ih=>obtain ⟨k,a⟩:=e;simp [Tv,ih,key]
theorem Afb {P:Program} {o:AOp} {ds:List Nat} {σ:St} {K:St->Prop} (h:Adi P o ds σ K):Vh P o (λσ'=>K (Tv ds σ')) σ:=by
 unfold Adi at h;split at h
 ·refine Ny (λσ' hk=> ?_) (Ap2 h);rw [A0o];exact hk
 split at h;all_goals (try (exact h.elim))
 obtain ⟨ys,σ1,hy,hk⟩:=Aug h;obtain ⟨v,σ2,hX,hk⟩:=Alh hk;split at hk
 case h_2=>exact hk.elim
 split at hk
 case h_2=>exact hk.elim
 split at hk
 case h_2=>exact hk.elim
 rename_i hm;have hm':=Nat.eq_of_beq_eq_true hm;obtain ⟨h1,h2,h3⟩:=hk.h;rw [Bi] at h3;simp only [Vh,Agz,Aat,Ala,Ds,A0y,hy,hX,hm',h1,h2];simpa using h3
structure Two (X Y:Prop):Prop where
 h:X/\Y
def Apd (P:Program) (A:List (Nat×AOp)) (K:St->Prop) (pl:LPlan):Bool->St->Prop:=
 LPlan.rec (motive:=λ_=>Bool->St->Prop) (λb σ=>match b with
  | true=>K σ
  | false=>True) (λ_ x xs ds _ ot ihn iho _ σ=>match ot with
    | .nil=>Ap0 xs σ (Adi P x ds σ (ihn true)) A
    | .alt .. => Two (Ap0 xs σ (Adi P x ds σ (ihn true)) A) (iho false σ)) pl
theorem Arj : ∀ {A:List (Nat×AOp)} {K:St->Prop} {σ},As5 A K σ->Ni A K σ:=by
 intro A
 induction A with
 | nil=>intro K σ h;exact h
 | cons e r ih=>
   intro K σ h;obtain ⟨i,x⟩:=e;have h':Ak7 x σ λd a=>match Afg a with
    | true=>Ck (A4 d a σ) (As5 r K)
    | false=>False:=h
   obtain ⟨d,a,h1,h2⟩:=W6 h';simp only [Ni,h1];split at h2
   ·rename_i hu;rw [Bi] at h2;exact ⟨hu,ih h2⟩
   ·exact h2.elim
theorem Ale {xs:List Nat} {σ:St} {K:Prop} : ∀ {A:List (Nat×AOp)},Ap0 xs σ K A->Ayn A xs σ/\K:=by
 intro A
 induction A with
 | nil=>intro h;exact ⟨(λe he=>by cases he),h⟩
 | cons e r ih=>
   intro h;change (match xs.contains e.1 with
    | true=>Ak7 e.2 σ λd a=>match Au1 a d σ with
      | true=>SameQ (look σ d) a (Ap0 xs σ K r)
      | false=>False
    | false=>Ap0 xs σ K r) at h
   split at h
   ·obtain ⟨d,a,h1,h2⟩:=W6 h;split at h2
    ·rename_i hu;obtain ⟨h3,h4⟩:=h2.h;obtain ⟨h5,h6⟩:=ih h4;refine ⟨λf hf hx=> ?_,h6⟩;rcases List.mem_cons.1 hf with rfl | hf
     ·exact ⟨d,a,h1,h3,hu⟩
     ·exact h5 f hf hx
    ·exact h2.elim
   ·rename_i hx;obtain ⟨h5,h6⟩:=ih h;refine ⟨λf hf hx2=> ?_,h6⟩;rcases List.mem_cons.1 hf with rfl | hf
    ·rw [hx] at hx2;cases hx2
    ·exact h5 f hf hx2
theorem Auc {P:Program} {A:List (Nat×AOp)} {K:St->Prop} : ∀ {pl:LPlan} {b:Bool} {σ},Apd P A K pl b σ->R7 P A K pl b σ:=by
 intro pl
 induction pl with
 | nil=>intro b σ h hb;subst hb;exact h
 | alt i x xs ds nx ot ih1 ih2=>
   intro b σ h;cases ot with
   | nil=> change Ap0 xs σ (Adi P x ds σ (Apd P A K nx true)) A at h;obtain ⟨h1,h2⟩:=Ale h;exact ⟨⟨h1,Ny (λ_=>ih1) (Afb h2)⟩,λhb=>by cases hb⟩
   | alt j y ys es ny oy=> change Two (Ap0 xs σ (Adi P x ds σ (Apd P A K nx true)) A) (Apd P A K (.alt j y ys es ny oy) false σ) at h;obtain ⟨h1,h2⟩:=Ale h.h.1;exact ⟨⟨h1,Ny (λ_=>ih1) (Afb h2)⟩,ih2 h.h.2⟩
structure TokE (u:V) (tv:Value) (K:V->Prop):Prop where
 h : ∃f cs,u = .clov tv f cs/\K u
def Agt:List Nat->(St->Prop)->St->Prop
 | [],K,σ=>K σ
 | e::r,K,σ=>match look σ (e%100000) with
   | .val (.raw tv)=>(match look σ ((e/100000-1000)/100) with
     | .val T=>Xs [e/100000%100] T λu=>TokE u tv λu=>Hs [e/100000%100] T .dead λT'=>Ck (A4 (e%100000) (.val u) (A4 (e%100000) .top (turnP ((e/100000-1000)/100) T' [e/100000%100] σ))) (Agt r K)
     | _=>Agt r K σ)
   | .val T=>FrzQ T (e/100000) λT'=>Ck (A4 (e%100000) (.val T') (A4 (e%100000) .top σ)) (Agt r K)
   | .ref q []=>(match look σ q with
     | .val T=>(match Nat.blt q 100000 with
       | true=>FrzQ T 0 λT'=>Ck (A4 (e%100000) (.val T') (A4 (e%100000) .top (A4 q (.val T') (A4 q .top σ)))) (Agt r K)
       | false=>Agt r K σ)
     | _=>Agt r K σ)
   | .ref q (c::p)=>(match Nat.beq (e/100000) 900 with
     | true=>(match look σ q with
       | .val T=>Xs (c::p) T λu=>Hs (c::p) T .dead λT'=>Ck (unP (e%100000) q (c::p) u T' σ) (Agt r K)
       | _=>Agt r K σ)
     | false=>Agt r K σ)
   | .rfv tv x (c0::p)=>(match Nat.beq (e/100000) 901 with
     | true=>(match look σ (e%100000+1) with
       | .rfv tv' x' (c'::p')=>SameT tv' tv (match look (A4 (e%100000) .top (A4 (e%100000+1) .top σ)) x with
         | .val T=>Xs (c0::p) T λu=>Hs (c0::p) T (.raw tv) λT0=>FrzQ u 0 λuf=>Hs (c0::p) T0 uf λT1=>(match look (turnP x T1 (c0::p) (turnP x T0 (c0::p) (A4 (e%100000) .top (A4 (e%100000+1) .top σ)))) x' with
           | .val B=>Xs (c'::p') B λb=>(match b with
             | .raw _=>Hs (c'::p') B uf λB'=>Ck (turnP x' B' (c'::p') (turnP x T1 (c0::p) (turnP x T0 (c0::p) (A4 (e%100000) .top (A4 (e%100000+1) .top σ))))) (Agt r K)
             | _=>False)
           | _=>False)
         | _=>False)
       | _=>False)
     | false=>(match look σ x with
       | .val T=>Xs (c0::p) T λu=>Hs (c0::p) T (.raw tv) λT'=>(match look (turnP x T' (c0::p) σ) ((e/100000-1000)/100) with
         | .val B=>Xs [e/100000%100] B λb=>(match b with
           | .raw tv'=>SameT tv' tv (Hs [e/100000%100] B u λB'=>Ck (A4 (e%100000+1) (.rfv tv x (c0::p)) (A4 (e%100000) (.rfv tv ((e/100000-1000)/100) [e/100000%100]) (turnP ((e/100000-1000)/100) B' [e/100000%100] (turnP x T' (c0::p) σ)))) (Agt r K))
           | _=>False)
         | _=>False)
       | _=>False))
   | _=>Agt r K σ
theorem Ayh : ∀ {ss:List Nat} {K:St->Prop} {σ:St},Agt ss K σ->K (A28 ss σ):=by
 intro ss
 induction ss with
 | nil=>intro K σ h;exact h
 | cons e r ih=>
   intro K σ h;simp only [Agt] at h;simp only [A28];split at h
   ·rename_i tv hT;split at h
    ·rename_i T hq;obtain ⟨u,hu,h1⟩:=Hn h;obtain ⟨f,cs,rfl,h2⟩:=h1.h;obtain ⟨T',hT',h3⟩:=Ct h2;rw [Bi] at h3;have e2:S4 e σ=A4 (e%100000) (.val (.clov tv f cs)) (A4 (e%100000) .top (turnP ((e/100000-1000)/100) T' [e/100000%100] σ)):=by
      simp only [S4,hT,A15,hq,hu];split
      ·simp only [hT']
      ·rename_i hne _;exact absurd rfl hne
     rw [e2];exact ih h3
    ·rename_i hne;have e2:S4 e σ=σ:=by
      simp only [S4,hT,A15]
     rw [e2];exact ih h
   ·rename_i T hraw hT;obtain ⟨T',h1,h2⟩:=h.h;subst h1;rw [Bi] at h2;have e2:S4 e σ=Akg e σ:=by
     unfold S4;split
     ·rename_i tv hT2;rw [hT] at hT2;cases hT2;exact (hraw tv rfl).elim
     ·rename_i hT2;rw [hT] at hT2;cases hT2
     ·rename_i hT2;rw [hT] at hT2;cases hT2
     ·rename_i hT2;rw [hT] at hT2;cases hT2
     ·rfl
    rw [e2];simp only [Akg,hT];exact ih h2
   ·rename_i q hT;split at h
    ·rename_i T hq;split at h
     ·rename_i hb;obtain ⟨T',h1,h2⟩:=h.h;rw [Ak] at h1;subst h1;rw [Bi] at h2;simp only [S4,hT,hq,hb];exact ih h2
     ·rename_i hb;simp only [S4,hT,hq,hb];exact ih h
    ·rename_i hne;have e2:S4 e σ=σ:=by
      simp only [S4,hT]
     rw [e2];exact ih h
   ·rename_i q c p hT;split at h
    ·rename_i h9;split at h
     ·rename_i T hq;obtain ⟨u,hu,h1⟩:=Hn h;obtain ⟨T',hT',h2⟩:=Ct h1;rw [Bi] at h2;have e2:S4 e σ=unP (e%100000) q (c::p) u T' σ:=by
       simp only [S4,hT,h9,A2v,hq,hu,hT']
      rw [e2];exact ih h2
     ·rename_i hne;have e2:S4 e σ=σ:=by
       simp only [S4,hT,h9,A2v]
      rw [e2];exact ih h
    ·rename_i h9;have e2:S4 e σ=σ:=by
      simp only [S4,hT,h9]
     rw [e2];exact ih h
   ·rename_i tv x c0 p hT;split at h
    ·rename_i h9;split at h
     case h_2=>exact h.elim
     rename_i tv' x' c' p' hE;obtain ⟨etv,h⟩:=h.h;subst etv;split at h
     case h_2=>exact h.elim
     rename_i T hq;obtain ⟨u,hu,h⟩:=Hn h;obtain ⟨T0,hT0,h⟩:=Ct h;obtain ⟨uf,huf,h⟩:=h.h;rw [Ak] at huf;subst huf;obtain ⟨T1,hT1,h⟩:=Ct h;split at h
     case h_2=>exact h.elim
     rename_i B hB;obtain ⟨b,hb,h⟩:=Hn h;split at h
     case h_2=>exact h.elim
     rename_i tv2;obtain ⟨B',hB',h⟩:=Ct h;rw [Bi] at h;have e2:S4 e σ=turnP x' B' (c'::p') (turnP x T1 (c0::p) (turnP x T0 (c0::p) (A4 (e%100000) .top (A4 (e%100000+1) .top σ)))):=by
      simp only [S4,hT,h9,A5m,hE];split
      ·simp only [hq,hu,hT0,hT1,hB,hb,hB']
      ·rename_i hne _;exact absurd rfl hne
     rw [e2];exact ih h
    ·rename_i h9;split at h
     case h_2=>exact h.elim
     rename_i T hq;obtain ⟨u,hu,h⟩:=Hn h;obtain ⟨T',hT',h⟩:=Ct h;split at h
     case h_2=>exact h.elim
     rename_i B hB;obtain ⟨b,hb,h⟩:=Hn h;split at h
     case h_2=>exact h.elim
     rename_i tv';obtain ⟨etv,h⟩:=h.h;subst etv;obtain ⟨B',hB',h⟩:=Ct h;rw [Bi] at h;have e2:S4 e σ=A4 (e%100000+1) (.rfv tv' x (c0::p)) (A4 (e%100000) (.rfv tv' ((e/100000-1000)/100) [e/100000%100]) (turnP ((e/100000-1000)/100) B' [e/100000%100] (turnP x T' (c0::p) σ))):=by
      simp only [S4,hT,h9,A6i,hq,hu,hT',hB,hb];split
      ·simp only [hB']
      ·rename_i hne _;exact absurd rfl hne
     rw [e2];exact ih h
   ·rename_i hne hne2 hne3 hne4;have e2:S4 e σ=σ:=by
     unfold S4;split
     ·rename_i tv hV;exact absurd hV (hne _)
     ·rename_i tv x c0 p hV;exact absurd hV (hne4 _ _ _ _)
     ·rename_i q c p hq;exact absurd hq (hne3 q c p)
     ·rename_i q hq;exact absurd hq (hne2 q)
     ·unfold Akg;split
      ·rename_i V hV;exact absurd hV (hne V)
      ·rfl
    rw [e2];exact ih h
structure LoopQ (P:Program) (c:ACode) (Q:Ex->St->Prop) (σ:St):Prop where
 h:awp P (.loop c) Q σ
structure CutQ (P:Program) (c:ACode) (Q:Ex->St->Prop) (σ:St):Prop where
 h:awp P (.cut c) Q σ
def vc (P:Program):ACode->(Ex->St->Prop)->St->Prop
 | .skip,Q,σ=>Q .normal σ
 | .reg gs,Q,σ=>Vc P gs (Q .normal) σ
 | .dreg pre post,Q,σ=>Aw7 P (Ail pre) σ pre [] [] [] (Vc P post (Q .normal))
 | .seq a b,Q,σ=>vc P a (Ae8 (vc P b Q) Q) σ
 | .cond x t e,Q,σ=>match Am σ x with
   | .val (.bool b)=>Br b (Ck (A7y x true σ) (vc P t Q)) (Ck (A7y x false σ) (vc P e Q))
   | _=>False
 | .block i c,Q,σ=>vc P c (Auo i Q) σ
 | .loop c,Q,σ=>LoopQ P c Q σ
 | .exit i,Q,σ=>Q (.exit i) σ
 | .ret,Q,σ=>Q .ret σ
 | .drop ds c,Q,σ=>Ck (Tv ds σ) (vc P c Q)
 | .cut c,Q,σ=>CutQ P c Q σ
 | .dregl A pl,Q,σ=>As5 A (Apd P A (Q .normal) pl true) σ
 | .frz ss c,Q,σ=>Agt ss (vc P c Q) σ
 | .nam g1 g2 x k e,Q,σ=>Vc P g1 (λσ1=>match look σ1 x with
   | .agg as=>(match as[k]? with
     | some (.ref r p)=>Aa1 (look σ1 r) p λu=>(match u with
       | .sl o m xs=>(match o with
         | true=>NamQ λq n c=>Ck (A4 e (.rfv (.slice q n c) r p) (A4 x (.agg (as.set k (.val (.raw (.slice q n c))))) σ1)) (Vc P g2 (Q .normal))
         | false=>False)
       | _=>False)
     | _=>False)
   | _=>False) σ
theorem Azx {x:X} {b:Bool} {σ:St} (h:Am σ x = .val (.bool b)):A7y x b σ=σ:=by
 cases x with
 | c v=>rfl
 | t s=>
   refine Uh ?_;simp only [Am] at h;split at h
   ·rename_i v hv;split at h
    ·cases h
    ·rw [hv];exact h
   ·exact h
theorem Acb {P:Program} : ∀ {c:ACode} {Q:Ex->St->Prop} {σ:St},vc P c Q σ->awp P c Q σ:=by
 intro c
 induction c with
 | skip=>intro Q σ h;exact h
 | reg gs=>intro Q σ h;exact Wm h
 | dreg pre post=>intro Q σ h;exact Alf (λ_=>Wm) (Aw6 rfl rfl (by simp) h)
 | seq a b ih1 ih2=> intro Q σ h;have h':vc P a (Ae8 (vc P b Q) Q) σ:=h;show awp P a (Ae8 (awp P b Q) Q) σ;exact U9 (Q:=Ae8 (vc P b Q) Q) (Rz (λ_ hh=>ih2 hh) λ_ _=>id) (ih1 h')
 | cond x t e ih1 ih2=>
   intro Q σ h;simp only [vc] at h;simp only [awp];split at h
   ·rename_i b hb;simp only [hb];refine ⟨λe=> ?_,λe=> ?_⟩
    ·subst e;have:=h.t rfl;rw [Bi,Azx hb] at this;exact ih1 this
    ·subst e;have:=h.f rfl;rw [Bi,Azx hb] at this;exact ih2 this
   ·exact h.elim
 | block i c ih=>intro Q σ h;exact ih h
 | loop c ih=>intro Q σ h;exact h.h
 | exit i=>intro Q σ h;exact h
 | ret=>intro Q σ h;exact h
 | drop ds c ih=>intro Q σ h;simp only [vc] at h;rw [Bi] at h;exact ih h
 | cut c ih=>intro Q σ h;exact h.h
 | frz ss c ih=>intro Q σ h;simp only [vc] at h;exact ih (Ayh h)
 | nam g1 g2 x k e=>
   intro Q σ h;simp only [vc] at h;refine Ss (λσ1 h q n c=> ?_) (Wm h);split at h
   case h_2=>exact h.elim
   rename_i as hx;split at h
   case h_2=>exact h.elim
   rename_i r p hk;obtain ⟨T,u,hT,hs,hn,h⟩:=In h;split at h
   case h_2=>exact h.elim
   rename_i o m xs;split at h
   case h_2=>exact h.elim
   have h:=h.h q n c;rw [Bi] at h;have e2:A3g (.slice q n c) x k e σ1=A4 e (.rfv (.slice q n c) r p) (A4 x (.agg (as.set k (.val (.raw (.slice q n c))))) σ1):=by simp only [A3g,hx,hk,hn]
   rw [e2];exact Wm h
 | dregl A R=>intro Q σ h;exact Ae5 (λ_=>Auc) (Arj h)
theorem Ao5 {P:Program} {f N:Nat} {ac:ACode} {rs:List RS} {args:List V} {R:V->List V->Prop} (hf:Bj P f N ac rs=true) (hn:args.length<=N)
  (h:vc P ac (Awn N rs args R) (entry N 0 args)):Tri P f args R:=A18 hf hn (Acb h)
def A7v {α:Type} (ks:List Nat) (st:α->St) (inv:α->Prop) (μ:α->Nat) (a:α) (σ:St):Prop := ∃b,restrict ks σ=st b/\inv b/\μ b<μ a
theorem LoopQ.by {α:Type} {P:Program} {c:ACode} {Q:Ex->St->Prop} {σ:St} (ks:List Nat) (st:α->St) (inv:α->Prop) (μ:α->Nat) (a0:α) (h0:restrict ks σ=st a0) (hi:inv a0)
  (hr : ∀a,inv a->vc P c (Ae8 (A7v ks st inv μ a) Q) (st a)):LoopQ P c Q σ:=by
 refine ⟨A4a ks (λn σ => ∃a,σ=st a/\inv a/\n=μ a) (μ a0) ⟨a0,h0,hi,rfl⟩ ?_⟩;rintro n σ ⟨a,rfl,ha,rfl⟩;refine U9 (Rz ?_ λ_ _=> .inl) (Acb (hr a ha));rintro σ' ⟨b,h1,h2,h3⟩;exact ⟨μ b,h3,b,h1,h2,rfl⟩
def Ret (P:Program) (f:Nat) (vs:List V) (v:V):Prop:=Tri P f vs (λr _=>r=v)
theorem Bn {P:Program} {f N:Nat} {ac:ACode} {rs:List RS} {args:List V} {v:V} (hf:Bj P f N ac rs=true) (hn:args.length<=N)
  (h:vc P ac (Awn N rs args λr _=>r=v) (entry N 0 args)):Ret P f args v:=Ao5 hf hn h
abbrev Ae (n:Int):V:= .int .i64 n
end Go.Proofs.Ytaalgpkajkogkaa.Ax
namespace Go.Proofs.Ytaalgpkajkogkaa.Ax
open Go
noncomputable def ask {α:Type} (p:Prop) (x:Option α):Option α:=@ite _ p (Classical.propDecidable p) x none
def nth {α:Type} [Inhabited α] (xs:List α) (i:Nat):α:=xs.getD i default
theorem P7 {α:Type} {p:Prop} {x:Option α} {v:α}:ask p x=some v↔p/\x=some v:=by unfold ask;split<;>simp_all
theorem Ag {α:Type} {p:Prop} {x:Option α} (h:p):ask p x=x:=by unfold ask;rw [if_pos h]
def Ami {σ τ:Type} (body:σ->Option (σ ⊕ τ)):Nat->σ->Option τ
 | 0,_=>none
 | n+1,s=>match body s with
   | none=>none
   | some (.inl s')=>Ami body n s'
   | some (.inr t)=>some t
theorem Azd {σ τ:Type} {body:σ->Option (σ ⊕ τ)} : ∀ {n m:Nat} {s:σ} {t:τ},n<=m->Ami body n s=some t->Ami body m s=some t:=by
 intro n
 induction n with
 | zero=>intro m s t _ h;cases h
 | succ n ih=>
   intro m s t hm h
   match m,hm with
   | m+1,hm=>
     simp only [Ami] at h ⊢;split at h
     ·cases h
     ·exact ih (by omega) h
     ·exact h
open Classical in
noncomputable def Aq {σ τ:Type} (body:σ->Option (σ ⊕ τ)) (s:σ):Option τ:=if h : ∃t n,Ami body n s=some t then some (Classical.choose h) else none
theorem Rd {σ τ:Type} {body:σ->Option (σ ⊕ τ)} {s:σ} {t:τ}:Aq body s=some t ↔ ∃n,Ami body n s=some t:=by
 unfold Aq;constructor
 ·intro h;split at h
  ·rename_i hx;cases h;exact Classical.choose_spec hx
  cases h
 rintro ⟨n,hn⟩;rw [dif_pos ⟨t,n,hn⟩];obtain ⟨m,hm⟩:=Classical.choose_spec (⟨t,n,hn⟩ : ∃t n,Ami body n s=some t);have h1:=Azd (Nat.le_max_left n m) hn;have h2:=Azd (Nat.le_max_right n m) hm;rw [h1] at h2;exact h2.symm
theorem Awi {σ τ:Type} (body:σ->Option (σ ⊕ τ)) (s:σ):Aq body s=(match body s with
  | none=>none
  | some (.inl s')=>Aq body s'
  | some (.inr t)=>some t):=by
 apply Option.ext;intro t;rw [Rd];constructor
 ·rintro ⟨n,hn⟩;cases n with
  | zero=>cases hn
  | succ n=>
    simp only [Ami] at hn;split at hn
    ·cases hn
    ·exact Rd.2 ⟨n,hn⟩
    ·exact hn
 intro h;split at h
 ·cases h
 ·rename_i s' e;obtain ⟨n,hn⟩:=Rd.1 h;exact ⟨n+1,by simp only [Ami,e];exact hn⟩
 rename_i t' e;exact ⟨1,by simp only [Ami,e];exact h⟩
abbrev Av (α:Type):List α:=[]
abbrev slr {α:Type} (o:Bool) (m:Nat) (f:α->V) (xs:List α):V:= .sl o m (xs.map f)
class Fz {α:Type} (f:α->V) (g:outParam (α->V)):Prop where
 eq : ∀x,(f x).fz=g x
instance {k:IntKind}:Fz (V.int k) (V.int k):=⟨λ_=>rfl⟩
instance:Fz Ae Ae:=⟨λ_=>rfl⟩
instance:Fz V.bool V.bool:=⟨λ_=>rfl⟩
instance:Fz V.str V.str:=⟨λ_=>rfl⟩
theorem Ab {α:Type} (f:α->V) {g:α->V} [Fz f g] (xs:List α):fzL (xs.map f)=xs.map g:=by
 induction xs with
 | nil=>rfl
 | cons x r ih=>simp [fzL,Fz.eq,ih]
instance {α:Type} (m:Nat) (f g:α->V) [Fz f g]:Fz (slr true m f) (slr false m g):=⟨λx=>by simp [slr,V.fz,Ab]⟩
instance {α:Type} (m:Nat) (f:α->V):Fz (slr false m f) (slr false m f):=⟨λx=>by simp [slr,V.fz]⟩
theorem Ac {α:Type} (m:Nat) (f:α->V) {g:α->V} [Fz f g] (xs:List α):V.fz (.sl true m (xs.map f)) = .sl false m (xs.map g):=by simp [V.fz,Ab]
theorem Ad {α:Type} (f:α->V) {g:α->V} [Fz f g] (x:α):V.fz (f x)=g x:=Fz.eq x
abbrev rA2 {α:Type} (f:α->V) (p:α×α):V:= .agg [f p.1,f p.2]
abbrev rA3 {α:Type} (f:α->V) (p:α×α×α):V:= .agg [f p.1,f p.2.1,f p.2.2]
abbrev rP {α:Type} (o:Bool) (f:α->V) (x:α):V:= .ptr o (f x)
abbrev rO {α:Type} (o:Bool) (f:α->V):Option α->V
 | none=> .nilp
 | some x=> .ptr o (f x)
abbrev rOl {α:Type} (m:Nat) (f:α->V):Option (List α)->V
 | none=> .nl m
 | some xs=> .sl false m (xs.map f)
abbrev rMp {β:Type} (o:Bool) (f:β->Lf) (l:List (ByteArray×β)):V:= .mp o (.s (l.map λe=>(e.1,f e.2)))
instance {β:Type} (o:Bool) (f:β->Lf):Fz (rMp o f) (rMp false f):=⟨λx=>by simp [V.fz]⟩
abbrev rMi {β:Type} (o:Bool) (f:β->Lf) (l:List (Int×β)):V:= .mp o (.i (l.map λe=>(e.1,f e.2)))
instance {β:Type} (o:Bool) (f:β->Lf):Fz (rMi o f) (rMi false f):=⟨λx=>by simp [V.fz]⟩
theorem LkQ.one {κ:Type} [DecidableEq κ] {β:Type} (f:β->Lf) (g:β->V) (l:List (κ×β)) (z0:β) {es:List (κ×Lf)} {s:κ} {z:Lf} {K:V->Prop} (e:es=l.map λe=>(e.1,f e.2)) (hz:z=f z0) (hg : ∀b,(f b).v=g b)
  (h:K (g ((Gs l s).getD z0))):LkQ es s z false K:=by
 subst e;subst hz;refine ⟨?_⟩;unfold Axm;rw [Arm,Option.getD_map,hg];exact h
theorem MsQ.o {κ:Type} [DecidableEq κ] {β:Type} (f:β->Lf) (l:List (κ×β)) (b:β) {es:List (κ×Lf)} {s:κ} {x:Lf} {K:List (κ×Lf)->Prop} (e:es=l.map λe=>(e.1,f e.2)) (hx:x=f b)
  (h:K ((Lv l s b).map λe=>(e.1,f e.2))):MsQ es s x K:=by
 subst e;subst hx;exact ⟨by rw [Arq];exact h⟩
theorem BsQ.o (ns:List Int) {xs:List V} {K:ByteArray->Prop} (e:xs=ns.map (V.int .u8)) (h:K (Aa8 ns)):BsQ xs K:=by subst e;exact ⟨ns,Ay2 ns,h⟩
instance {α:Type} (f g:α->V) [Fz f g]:Fz (rP true f) (rP false g):=⟨λx=>by simp [V.fz,Fz.eq]⟩
instance {α:Type} (m:Nat) (f:α->V):Fz (rOl m f) (rOl m f):=⟨λx=>by cases x<;>simp [rOl,V.fz]⟩
instance {α:Type} (f g:α->V) [Fz f g]:Fz (rO true f) (rO false g):=⟨λx=>by cases x<;>simp [rO,V.fz,Fz.eq]⟩
instance {α:Type} (f g:α->V) [Fz f g]:Fz (rA2 f) (rA2 g):=⟨λx=>by simp [V.fz,fzL,Fz.eq]⟩
instance {α:Type} (f g:α->V) [Fz f g]:Fz (rA3 f) (rA3 g):=⟨λx=>by simp [V.fz,fzL,Fz.eq]⟩
def One {α:Type} (f:α->V):Prop := ∀x,(f x).cells=[f x]/\(f x).isAgg=false
def O7 {α:Type} (m:Nat) (f:α->V):Prop := ∀x,(f x).cells.length=m/\Em (f x).cells=true
section
variable {α ρ:Type} {v:ρ} {x y:Option ρ} {X Y:Prop}
theorem Br.od {p:Prop} [Decidable p] (h:(if p then x else y)=some v) (h1:p->x=some v->X) (h2:¬p->y=some v->Y):Br (decide p) X Y:=by
 by_cases hp:p
 ·rw [if_pos hp] at h;exact ⟨λ_=>h1 hp h,λe=>absurd hp (of_decide_eq_false e)⟩
 rw [if_neg hp] at h;exact ⟨λe=>absurd (of_decide_eq_true e) hp,λ_=>h2 hp h⟩
theorem Br.oe {a b:Int} (h:(if a=b then x else y)=some v) (h1:a=b->x=some v->X) (h2:¬a=b->y=some v->Y):Br (a==b) X Y:=by
 have:(a==b)=decide (a=b):=by rw [Bool.eq_iff_iff];simp
 rw [this];exact Br.od h h1 h2
theorem Br.on {a b:Int} (h:(if a≠b then x else y)=some v) (h1:a≠b->x=some v->X) (h2:¬a≠b->y=some v->Y):Br (a != b) X Y:=by
 have:(a != b)=decide (a≠b):=by rw [Bool.eq_iff_iff];simp
 rw [this];exact Br.od h h1 h2
theorem Br.ob {b:Bool} (h:(if b=true then x else y)=some v) (h1:b=true->x=some v->X) (h2:¬b=true->y=some v->Y):Br b X Y:=by
 cases b
 ·exact ⟨λe=>Bool.noConfusion e,λ_=>h2 (by simp) (by simpa using h)⟩
 exact ⟨λ_=>h1 rfl (by simpa using h),λe=>Bool.noConfusion e⟩
theorem Br.flip {b:Bool} (h:Br b Y X):Br (!b) X Y:=by
 cases b
 ·exact ⟨λ_=>h.f rfl,λe=>Bool.noConfusion e⟩
 exact ⟨λe=>Bool.noConfusion e,λ_=>h.t rfl⟩
theorem Ask.o {p:Prop} (h:ask p x=some v) (hk:p->x=some v->X):Ask p X:=by obtain ⟨h1,h2⟩:=P7.1 h;exact ⟨h1,hk h1 h2⟩
theorem Len.mrep {f:α->V} {w:α} {n:Nat} {K:Nat->Prop} (h:K n):Len ((List.replicate n w).map f) K:=⟨by rw [List.length_map,List.length_replicate];exact h⟩
variable {f:α->V}
theorem A5q [Inhabited α] (f:α->V) {xs:List α} {j:Nat} (hj:j<xs.length):(xs.map f).getD j .dead=f (nth xs j):=by simp [List.getD_eq_getElem?_getD,nth,hj]
theorem Elem.o [Inhabited α] {xs:List α} {j:Nat} {K:V->Prop} (hj:j<xs.length) (hk:K (f (nth xs j))):Elem (xs.map f) j K:=⟨by rw [A5q f hj];exact hk⟩
theorem Ai2 (hf:One f) (xs:List α):Bo (xs.map f)=xs.map f:=by
 induction xs with
 | nil=>rfl
 | cons x r ih=>simp only [List.map_cons,Bo,(hf x).1,ih];rfl
theorem A2c [Inhabited α] (f:α->V) {xs:List α} {c:Nat} (hc:c<xs.length):(xs.map f).drop c=f (nth xs c)::(xs.map f).drop (c+1):=by rw [List.drop_eq_getElem_cons (by simpa using hc)];simp [nth,List.getD_eq_getElem?_getD,hc]
theorem Cells.one [Inhabited α] (hf:One f) {xs:List α} {c:Nat} {K:List V->Prop} (hc:c<xs.length) (hk:K [f (nth xs c)]):Cells (Bo (xs.map f)) c 1 K:=by
 refine ⟨_,?_,?_,hk⟩
 ·rw [Ai2 hf,List.length_map];exact hc
 rw [Ai2 hf,A2c f hc];rfl
theorem Asn [Inhabited α] {m:Nat} (hf:O7 m f) : ∀ {xs:List α} {i:Nat},i<xs.length -> ∃l r,Bo (xs.map f)=l++((f (nth xs i)).cells++r)/\l.length=i*m:=by
 intro xs
 induction xs with
 | nil=>intro i h;simp at h
 | cons x t ih=>
   intro i h;cases i with
   | zero=>exact ⟨[],Bo (t.map f),rfl,by simp⟩
   | succ i=> obtain ⟨l,r,e,hl⟩:=ih (i:=i) (by simpa using h);refine ⟨(f x).cells++l,r,by simp only [List.map_cons,Bo,e,List.append_assoc];rfl,?_⟩;rw [List.length_append,(hf x).1,hl,Nat.succ_mul];omega
theorem Cells.wide [Inhabited α] {m:Nat} (hf:O7 m f) {xs:List α} {i off n:Nat} {K:List V->Prop} (hi:i<xs.length) (hn:off+n<=m) (hk:K (((f (nth xs i)).cells.drop off).take n)) :
  Cells (Bo (xs.map f)) (Au i m+off) n K:=by
 obtain ⟨l,r,e,hl⟩:=Asn hf hi;have hw:=(hf (nth xs i)).1;refine ⟨_,?_,?_,hk⟩
 ·rw [e,Uf,List.length_append,List.length_append,hl,hw];omega
 rw [e,Uf,<-hl,<-List.drop_drop,List.drop_left,List.drop_append_of_le_length (by omega),List.take_append_of_le_length (by simp;omega)]
theorem Cells.wide0 [Inhabited α] {m:Nat} (hf:O7 m f) {xs:List α} {i n:Nat} {K:List V->Prop} (hi:i<xs.length) (hn:n<=m) (hk:K ((f (nth xs i)).cells.take n)) :
  Cells (Bo (xs.map f)) (Au i m) n K:=Cells.wide (off:=0) hf hi (by omega) hk
theorem Cells.lit {xs us:List V} {c n:Nat} {K:List V->Prop} (h:Nat.ble (c+n) xs.length=true) (e:(xs.drop c).take n=us) (hk:K us):Cells xs c n K:=⟨us,Nat.le_of_ble_eq_true h,e,hk⟩
theorem Kid.one [Inhabited α] (hf:One f) {m:Nat} {xs:List α} {c:Nat} {K:V->Prop} (hc:c<xs.length) (hk:K (f (nth xs c))):Kid (.sl true m (xs.map f)) c K:= ⟨_,rfl,by simp only [V.kids,Ai2 hf];simp [nth,List.getD_eq_getElem?_getD,hc],hk⟩
theorem Kid.wide [Inhabited α] {m:Nat} (hf:O7 m f) {xs:List α} {i off:Nat} {u:V} {K:V->Prop} (hi:i<xs.length) (hu:(f (nth xs i)).cells[off]? = some u) (hk:K u):Kid (.sl true m (xs.map f)) (Au i m+off) K:=by obtain ⟨l,r,e,hl⟩:=Asn hf hi;refine ⟨u,rfl,?_,hk⟩;have ho:off<(f (nth xs i)).cells.length:=(List.getElem?_eq_some_iff.1 hu).1;simp only [V.kids,e];rw [Uf,List.getElem?_append_right (by omega),hl,Nat.add_sub_cancel_left,List.getElem?_append_left ho,hu]
theorem Kid.lit {T k:V} {c:Nat} {K:V->Prop} (h1:T.stepOk=true) (h2:T.kids[c]? = some k) (hk:K k):Kid T c K:=⟨k,h1,h2,hk⟩
theorem A0j (hf:One f) : ∀ {xs:List α} {c:Nat} (w:α),c<xs.length->Sz (xs.map f) c [f w]=some ((xs.set c w).map f):=by
 intro xs
 induction xs with
 | nil=>intro c w h;simp at h
 | cons x r ih=>
   intro c w h;have hlen:(f x).cells.length=1:=by rw [(hf x).1];rfl
   simp only [List.map_cons,Sz,hlen];cases c with
   | zero=>
     have:(f x).setCells 0 [f w]=some (f w):=by
      have hx:=(hf x).2;have hv:=(hf w).2;unfold V.setCells;split
      ·simp_all [V.isAgg]
      ·simp [Asy,hv]
     simp [this]
   | succ c=> have:=ih (c:=c) w (by simpa using h);simp [this]
theorem SetKids.one (hf:One f) {o:Bool} {m:Nat} {xs:List α} {c:Nat} {us:List V} {K:V->Prop} (w:α) (e:us=[f w]) (hc:c<xs.length) (hk:K (.sl o m ((xs.set c w).map f))):SetKids (.sl o m (xs.map f)) c us K:=by subst e;exact ⟨_,by simp only [V.setKids,A0j hf w hc,Option.map_some],hk⟩
theorem Axl [Inhabited α] {m:Nat} (hf:O7 m f) : ∀ {xs:List α} {i off:Nat} {us:List V} (w:α),i<xs.length->(f (nth xs i)).setCells off us=some (f w)->off<m->Sz (xs.map f) (i*m+off) us=some ((xs.set i w).map f):=by
 intro xs
 induction xs with
 | nil=>intro i off us w h;simp at h
 | cons x r ih=>
   intro i off us w h hs ho;simp only [List.map_cons,Sz,(hf x).1];cases i with
   | zero=> have hs':(f x).setCells off us=some (f w):=hs;simp [ho,hs']
   | succ i=> have:=ih (i:=i) (off:=off) (us:=us) w (by simpa using h) hs ho;rw [if_neg (by rw [Nat.succ_mul];omega),show (i+1)*m+off-m=i*m+off by rw [Nat.succ_mul];omega,this];simp
theorem SetKids.wide [Inhabited α] {m:Nat} (hf:O7 m f) {o:Bool} {xs:List α} {i off:Nat} {us:List V} {K:V->Prop} (w:α) (hi:i<xs.length) (hs:(f (nth xs i)).setCells off us=some (f w)) (ho:off<m) (hk:K (.sl o m ((xs.set i w).map f))) :
  SetKids (.sl o m (xs.map f)) (Au i m+off) us K:=
 ⟨_,by simp only [V.setKids,Uf,Axl hf w hi hs ho,Option.map_some],hk⟩
theorem SetKids.wide0 [Inhabited α] {m:Nat} (hf:O7 m f) {o:Bool} {xs:List α} {i:Nat} {us:List V} {K:V->Prop} (w:α) (hi:i<xs.length) (hs:(f (nth xs i)).setCells 0 us=some (f w)) (ho:0<m) (hk:K (.sl o m ((xs.set i w).map f))) :
  SetKids (.sl o m (xs.map f)) (Au i m) us K:=SetKids.wide (off:=0) hf w hi hs ho hk
theorem Avm [Inhabited α] {m:Nat} (hf:O7 m f) : ∀ {xs:List α} {i off:Nat} {us:List V} {v:V},i<xs.length->(f (nth xs i)).setCells off us=some v->off<m->Sz (xs.map f) (i*m+off) us=some (holeW f xs i v):=by
 intro xs
 induction xs with
 | nil=>intro i off us v h;simp at h
 | cons x r ih=>
   intro i off us v h hs ho;simp only [List.map_cons,Sz,(hf x).1,holeW];cases i with
   | zero=> have hs':(f x).setCells off us=some v:=hs;simp [ho,hs']
   | succ i=> have:=ih (i:=i) (off:=off) (us:=us) (v:=v) (by simpa using h) hs ho;rw [if_neg (by rw [Nat.succ_mul];omega),show (i+1)*m+off-m=i*m+off by rw [Nat.succ_mul];omega,this];simp [holeW]
theorem Axb {m:Nat} (hf:O7 m f) : ∀ {xs:List α} {i off:Nat} {us:List V} {v:V} (w:α),i<xs.length->v.cells.length=m->v.setCells off us=some (f w)->off<m->Sz (holeW f xs i v) (i*m+off) us=some ((xs.set i w).map f):=by
 intro xs
 induction xs with
 | nil=>intro i off us v w h;simp at h
 | cons x r ih=>
   intro i off us v w h hv hs ho;cases i with
   | zero=>simp [holeW,Sz,hv,ho,hs]
   | succ i=> have:=ih (i:=i) (off:=off) (us:=us) (v:=v) w (by simpa using h) hv hs ho;simp only [holeW,List.map_cons,List.set_cons_succ,Sz,(hf x).1] at this ⊢;rw [if_neg (by rw [Nat.succ_mul];omega),show (i+1)*m+off-m=i*m+off by rw [Nat.succ_mul];omega,this];simp
theorem Len.holeW {xs:List α} {i:Nat} {v:V} {K:Nat->Prop} (h:K xs.length):Len (holeW f xs i v) K:=⟨by simp only [Ax.holeW,List.length_set,List.length_map];exact h⟩
theorem SetKids.mkholeW [Inhabited α] {m:Nat} (hf:O7 m f) {o:Bool} {xs:List α} {i off:Nat} {us:List V} {K:V->Prop} (v:V) (hi:i<xs.length) (hs:(f (nth xs i)).setCells off us=some v) (ho:off<m) (hk:K (.sl o m (holeW f xs i v))) :
  SetKids (.sl o m (xs.map f)) (Au i m+off) us K:=
 ⟨_,by simp only [V.setKids,Uf,Avm hf hi hs ho,Option.map_some],hk⟩
theorem SetKids.fillW {m:Nat} (hf:O7 m f) {o:Bool} {xs:List α} {i off:Nat} {us:List V} {v:V} {K:V->Prop} (w:α) (hi:i<xs.length) (hv:v.cells.length=m) (hs:v.setCells off us=some (f w)) (ho:off<m) (hk:K (.sl o m ((xs.set i w).map f))) :
  SetKids (.sl o m (holeW f xs i v)) (Au i m+off) us K:=
 ⟨_,by simp only [V.setKids,Uf,Axb hf w hi hv hs ho,Option.map_some],hk⟩
theorem SetKids.lit {T T':V} {c:Nat} {us:List V} {K:V->Prop} (h:T.setKids c us=some T') (hk:K T'):SetKids T c us K:=⟨T',h,hk⟩
theorem MkQ.o {d n:Nat} {z:V} {K:List V->Prop} (f:α->V) (w:α) (e:z=f w) (hk:K ((List.replicate n w).map f)):MkQ d n z K:=⟨by rw [e,<-List.map_replicate];exact hk⟩
theorem Axt {m:Nat} (hf:O7 m f) (ws:List α):Vq m (ws.map f)=true:=by
 induction ws with
 | nil=>rfl
 | cons w r ih=>simp [Vq,(hf w).1,(hf w).2,ih]
theorem BslQ.o {d m:Nat} {us:List V} {K:List V->Prop} (f:α->V) (ws:List α) (hf:O7 m f) (e:us=ws.map f) (hk:K (ws.map f)):BslQ d m us K:=by subst e;exact ⟨Axt hf ws,hk⟩
theorem Ahx {m:Nat} (hf:O7 m f) (ws:List α):Em (Bo (ws.map f))=true:=by
 induction ws with
 | nil=>rfl
 | cons w r ih=> have:=(hf w).2;simp only [Em,List.map_cons,Bo,List.all_append,Bool.and_eq_true] at this ih ⊢;exact ⟨this,ih⟩
theorem AppQ.o {m d:Nat} {us vs:List V} {K:List V->Prop} (f:α->V) (hf:O7 m f) (xs ys:List α) (ex:us=xs.map f) (ey:vs=ys.map f) (h:ask (xs.length+ys.length<=LIM) x=some v) (hk:x=some v->K ((xs++ys).map f)):AppQ d us vs K:=by subst ex;subst ey;obtain ⟨h1,h2⟩:=P7.1 h;exact ⟨Ahx hf ys,by simpa using h1,by rw [<-List.map_append];exact hk h2⟩
theorem Ts (hf : ∀x,Bl (f x).cells=false) (ws:List α):Bl (Bo (ws.map f))=false:=by
 induction ws with
 | nil=>rfl
 | cons w r ih=>simp only [List.map_cons,Bo,He,hf w,ih];rfl
theorem SlcQ.o {l h:Int} {xs:List α} {K:List V->Prop} (f:α->V) (hh:ask (0<=l/\l<=h/\h<=(xs.length:Int)) x=some v) (hk:x=some v->K (((xs.drop l.toNat).take (h.toNat-l.toNat)).map f)):SlcQ (xs.map f) l h K:=by obtain ⟨⟨h1,h2,h3⟩,h4⟩:=P7.1 hh;exact ⟨h1,h2,by simpa using h3,by rw [<-List.map_drop,<-List.map_take];exact hk h4⟩
theorem NoOwn.o (hf : ∀x,Bl (f x).cells=false) {ws:List α} (h:X):NoOwn (ws.map f) X Y:=⟨.inl ⟨Ts hf ws,h⟩⟩
theorem NoOwn.own {us:List V} (e:Bl (Bo us)=true) (h:Y):NoOwn us X Y:=⟨.inr ⟨e,h⟩⟩
end
def Sn (P:Program) (f:Nat) (vs:List V) (v:V) (k:Nat) (u:V):Prop:=Tri P f vs (λr o=>r=v/\o[k]? = some u)
theorem Ql {P:Program} {f N:Nat} {ac:ACode} {rs:List RS} {args:List V} {v u:V} {k:Nat} (hf:Bj P f N ac rs=true) (hn:args.length<=N)
  (h:vc P ac (Awn N rs args λr o=>r=v/\o[k]? = some u) (entry N 0 args)):Sn P f args v k u:=Ao5 hf hn h
theorem RdL.drop {w:World} {O:Nat->Prop} : ∀(k:Nat) {os:List V} {us:List Value} {fp:List Nat},RdL w O os us fp -> ∃fp',RdL w O (os.set k .dead) us fp'/\List.Sublist fp' fp
 | _,_,_,_,.nil=>⟨[],.nil,.slnil⟩
 | 0,_,_,_,.leaf _ t=>⟨_,.leaf (.dead _) t,.refl _⟩
 | 0,_,_,_,.grp _ _ t=>⟨_,.leaf (.dead _) t,List.sublist_append_right _ _⟩
 | 0,_,_,_,.fblk _ _ _ _ t=>⟨_,.leaf (.dead _) t,.refl _⟩
 | 0,_,_,_,.oblk _ _ _ _ _ t=>⟨_,.leaf (.dead _) t,(List.sublist_append_right _ _).cons _⟩
 | 0,_,_,_,.mpf _ _ _ t=>⟨_,.leaf (.dead _) t,.refl _⟩
 | 0,_,_,_,.mpo _ _ _ t=>⟨_,.leaf (.dead _) t,(List.Sublist.refl _).cons _⟩
 | k+1,_,_,_,.leaf h t=>let ⟨_,a,b⟩:=RdL.drop k t;⟨_,.leaf h a,b⟩
 | k+1,_,_,_,.grp h s t=>let ⟨_,a,b⟩:=RdL.drop k t;⟨_,.grp h s a,(List.Sublist.refl _).append b⟩
 | k+1,_,_,_,.fblk h hc hO s t=>let ⟨_,a,b⟩:=RdL.drop k t;⟨_,.fblk h hc hO s a,b⟩
 | k+1,_,_,_,.oblk h hb hO hk s t=>let ⟨_,a,b⟩:=RdL.drop k t;⟨_,.oblk h hb hO hk s a,((List.Sublist.refl _).append b).cons_cons _⟩
 | k+1,_,_,_,.mpf hb he hO t=>let ⟨_,a,b⟩:=RdL.drop k t;⟨_,.mpf hb he hO a,b⟩
 | k+1,_,_,_,.mpo hb he hO t=>let ⟨_,a,b⟩:=RdL.drop k t;⟨_,.mpo hb he hO a,b.cons_cons _⟩
theorem Tri.drop {P:Program} {f:Nat} {args:List V} {k:Nat} {R:V->List V->Prop} (h:Tri P f args λr o=>R r (o.set k .dead)):Tri P f args R:=by intro w O vals fp h1 h2;obtain ⟨h3,h4⟩:=h w O vals fp h1 h2;refine ⟨h3,h4.mono ?_⟩;rintro e w' ⟨res,outs,rv,O',fpr,fpo,hR,he,r1,ro,hnd,hm⟩;obtain ⟨fp',a,b⟩:=RdL.drop k ro;have hs:List.Sublist (fpr++fp') (fpr++fpo):=(List.Sublist.refl _).append b;exact ⟨res,_,rv,O',fpr,fp',hR,he,r1,a,hs.nodup hnd,⟨hm.os,hm.tape,hm.output,hm.size,hm.same,λb hb=>hm.new b (hs.subset hb)⟩⟩
theorem RdL.deads {w:World} {O:Nat->Prop} : ∀(us:List Value),RdL w O (List.replicate us.length .dead) us []
 | []=> .nil
 | _::us=> .leaf (.dead _) (RdL.deads us)
theorem A3a {P:Program} {f N:Nat} {ac:ACode} {rs:List RS} {args cs:List V} {v:V} {k n:Nat} (hc:args[k]? = some (.agg cs)) (hl:cs.length=n) (hf:Bj P f N ac rs=true) (hn:args.length<=N)
  (h:vc P ac (Awn N rs args λr _=>r=v) (entry N 0 args)):Sn P f args v k (.agg (List.replicate n .dead)):=by
 subst hl;have h0:=Ao5 hf hn h;intro w O vals fp h1 h2;obtain ⟨h3,h4⟩:=h0 w O vals fp h1 h2;refine ⟨h3,h4.mono ?_⟩;rintro e w' ⟨res,outs,rv,O',fpr,fpo,hR,he,r1,ro,hnd,hm⟩;obtain ⟨_,_,vl,x,vr,_,fu,_,_,ev,_,_,hvl,_,gx,_⟩:=h1.at hc;have ga : ∃bs:Array Value,x = .agg bs/\bs.size=cs.length:=by
  cases gx with
  | leaf h _=>cases h
  | grp h s _=>cases h;exact ⟨_,rfl,by simpa using s.length⟩
  | fblk h _ _ _ _=>cases h
  | oblk h _ _ _ _ _=>cases h
 obtain ⟨bs,rfl,hb⟩:=ga;have hlen:outs.length=vals.length:=ro.length.symm;have hk:k<outs.length:=by rw [hlen,ev];simp;omega
 obtain ⟨y0,y1,f0,f3,e0,e3,g0,g3⟩:=RdL.split (outs.take k) (ys:=outs.drop k) (by rw [List.take_append_drop];exact ro);rw [List.drop_eq_getElem_cons hk] at g3;obtain ⟨u,us,f1,f2,e1,e2,g1,g2⟩:=g3.cons_split;have hy0:y0.length=k:=by rw [g0.length,List.length_take];omega
 subst e1;subst e2;rw [ev] at e0;obtain ⟨_,e4⟩:=List.append_inj e0 (by rw [hvl,hy0]);cases e4;have hd:RdL w' O' (outs.take k++(.agg (List.replicate cs.length .dead)::outs.drop (k+1))) vals (f0++([]++f2)):=by
  rw [ev,e0];have hbl:cs.length=bs.toList.length:=by simp;omega
  rw [hbl];exact g0.append (.grp (.agg _ bs.toList) (RdL.deads bs.toList) g2)
 have hs:List.Sublist (fpr++(f0++f2)) (fpr++fpo):=by rw [e3];exact (List.Sublist.refl _).append ((List.Sublist.refl _).append (List.sublist_append_right _ _))
 have hko:(outs.take k++(.agg (List.replicate cs.length .dead)::outs.drop (k+1)))[k]? = some (.agg (List.replicate cs.length .dead)):=by rw [List.getElem?_append_right (by rw [List.length_take];omega),List.length_take,Nat.min_eq_left (by omega),Nat.sub_self];rfl
 exact ⟨res,_,rv,O',fpr,f0++f2,⟨hR,hko⟩,he,r1,by simpa using hd,hs.nodup hnd,⟨hm.os,hm.tape,hm.output,hm.size,hm.same,λb hb=>hm.new b (hs.subset hb)⟩⟩
theorem Tri.freeze {P:Program} {f:Nat} {args:List V} {R:V->List V->Prop} (h:Tri P f args λr o=>R r.fz o):Tri P f args R:=by
 intro w O vals fp h1 h2;obtain ⟨h3,h4⟩:=h w O vals fp h1 h2;refine ⟨h3,h4.mono ?_⟩;rintro e w' ⟨res,outs,rv,O',fpr,fpo,hR,he,r1,ro,hnd,hm⟩;have hd:=List.nodup_append.1 hnd;have hnew : ∀b,b∈fpr->b∈fp\/w.heap.size<=b:=λb hb=>hm.new b (by simp [hb])
 refine ⟨res.fz,outs,rv,λb=>O' b/\b∉fpr,[],fpo,hR,he,?_,?_,by simpa using hd.2.1,⟨hm.os,hm.tape,hm.output,hm.size,λb hb hS=> ?_,λb hb=>hm.new b (by simpa using Or.inr (by simpa using hb))⟩⟩
 ·have:=r1.fz (O2:=λb=>O' b/\b∉fpr) (λb hb hh=>hh.2 hb) (λb hb _ hh=>hb hh.1);simpa [fzL] using this
 ·exact ro.frame (λb hb=>⟨rfl,(ro.fpO b hb).1,λhh=>hd.2.2 b hh b hb rfl⟩) (λb hb _=>⟨rfl,λhh=>hb hh.1⟩)
 have:=hm.same b hb hS;refine ⟨this.1,⟨λhh=>this.2.1 hh.1,λhh=>⟨this.2.2 hh,λhf=> ?_⟩⟩⟩;rcases hnew b hf with h5 | h5
 ·exact hS h5
 omega
theorem Aby {P:Program} {f N:Nat} {ac:ACode} {rs:List RS} {args:List V} {v:V} (hf:Bj P f N ac rs=true) (hn:args.length<=N)
  (h:vc P ac (Awn N rs args λr _=>r.fz=v) (entry N 0 args)):Ret P f args v:=Tri.freeze (R:=λr _=>r=v) (Ao5 hf hn h)
theorem Akq {P:Program} {f N:Nat} {ac:ACode} {rs:List RS} {args:List V} {v u:V} {k:Nat} (hf:Bj P f N ac rs=true) (hn:args.length<=N)
  (h:vc P ac (Awn N rs args λr o=>r.fz=v/\o[k]? = some u) (entry N 0 args)):Sn P f args v k u:=Tri.freeze (R:=λr o=>r=v/\o[k]? = some u) (Ao5 hf hn h)
theorem Ret.frz {P:Program} {f:Nat} {vs:List V} {v v':V} (h:Ret P f vs v) (e:v.fz=v'):Ret P f vs v':= Tri.freeze (R:=λr _=>r=v') (Tri.mono h λr _ hr=>by rw [show r=v from hr];exact e)
theorem Sn.frz {P:Program} {f k:Nat} {vs:List V} {v v' u:V} (h:Sn P f vs v k u) (e:v.fz=v'):Sn P f vs v' k u:= Tri.freeze (R:=λr o=>r=v'/\o[k]? = some u) (Tri.mono h λr _ hr=>⟨by rw [show r=v from hr.1];exact e,hr.2⟩)
class NoFz {α:Type} (f:α->V):Prop where
 eq : ∀x,(f x).noFz=true
instance {k:IntKind}:NoFz (V.int k):=⟨λ_=>rfl⟩
instance:NoFz Ae:=⟨λ_=>rfl⟩
instance:NoFz V.bool:=⟨λ_=>rfl⟩
instance:NoFz V.str:=⟨λ_=>rfl⟩
theorem Bb {α:Type} {f:α->V} [NoFz f] (xs:List α):Bq (xs.map f)=true:=by
 induction xs with
 | nil=>rfl
 | cons x r ih=>simp [Bq,NoFz.eq,ih]
instance {α:Type} (m:Nat) (f:α->V) [NoFz f]:NoFz (slr true m f):=⟨λx=>by simp [V.noFz,Bb]⟩
instance {β:Type} (f:β->Lf):NoFz (rMp true f):=⟨λx=>by simp [V.noFz]⟩
instance {β:Type} (f:β->Lf):NoFz (rMi true f):=⟨λx=>by simp [V.noFz]⟩
instance {α:Type} (f:α->V) [NoFz f]:NoFz (rP true f):=⟨λx=>by simp [V.noFz,NoFz.eq]⟩
instance {α:Type} (f:α->V) [NoFz f]:NoFz (rO true f):=⟨λx=>by cases x<;>simp [V.noFz,NoFz.eq]⟩
instance {α:Type} (f:α->V) [NoFz f]:NoFz (rA2 f):=⟨λx=>by simp [V.noFz,Bq,NoFz.eq]⟩
instance {α:Type} (f:α->V) [NoFz f]:NoFz (rA3 f):=⟨λx=>by simp [V.noFz,Bq,NoFz.eq]⟩
section
variable {P:Program} {K:St->Prop} {σ:St} {β ρ:Type} {v:ρ} {oo:Option β} {k:β->Option ρ}
theorem CallQ.o (rep:β->V) {vs vs':List V} {f d:Nat} (e:vs=vs') (h:oo.bind k=some v) (hr : ∀r,oo=some r->Ret P f vs' (rep r)) (hk : ∀r,k r=some v->Ck (A4 d (.val (rep r)) σ) K):CallQ P f d vs [] [] K σ:=by subst e;obtain ⟨r,h1,h2⟩:=Option.bind_eq_some_iff.1 h;have h3:=hk r h2;rw [Bi] at h3;refine ⟨rfl,Tri.mono (hr r h1) ?_⟩;rintro r o rfl;exact ⟨rfl,h3⟩
theorem CallQ.rd (rep:β->V) {vs vs':List V} {rs:List Nat} {f d:Nat} (e:vs=vs') (hn : ∀r,(rep r).noFz=true) (h:oo.bind k=some v) (hr : ∀r,oo=some r->Ret P f vs' (rep r)) (hk : ∀r,k r=some v->Ck (A4 d (.val (rep r)) σ) K):CallQ P f d vs [] rs K σ:=by subst e;obtain ⟨r,h1,h2⟩:=Option.bind_eq_some_iff.1 h;have h3:=hk r h2;rw [Bi] at h3;refine ⟨rfl,Tri.mono (hr r h1) ?_⟩;rintro r' o rfl;exact ⟨by simp [Co,hn r],h3⟩
theorem CloQ.o (rep:β->V) {vs vs' cs:List V} {rs:List Nat} {f d:Nat} (e:vs++fzL cs=vs') (hn : ∀r,Co rs (rep r)=true) (h:oo.bind k=some v) (hr : ∀r,oo=some r->Ret P f vs' (rep r)) (hk : ∀r,k r=some v->Ck (A4 d (.val (rep r)) σ) K):CloQ P f d cs vs rs K σ:=by subst e;obtain ⟨r,h1,h2⟩:=Option.bind_eq_some_iff.1 h;have h3:=hk r h2;rw [Bi] at h3;refine ⟨Tri.mono (hr r h1) ?_⟩;rintro r' o rfl;exact ⟨hn r,h3⟩
theorem CallP.o (rep:β->V) {vs vs':List V} {f d:Nat} {K:V->Prop} (e:vs=vs') (h:oo.bind k=some v) (hr : ∀r,oo=some r->Ret P f vs' (rep r)) (hk : ∀r,k r=some v->K (rep r)):CallP P f d vs [] K:=by subst e;obtain ⟨r,h1,h2⟩:=Option.bind_eq_some_iff.1 h;exact ⟨_,Tri.mono (hr r h1) (by rintro r' _ rfl;exact ⟨rfl,rfl⟩),hk r h2⟩
theorem CallP.rd (rep:β->V) {vs vs':List V} {rs:List Nat} {f d:Nat} {K:V->Prop} (e:vs=vs') (hn : ∀r,(rep r).noFz=true) (h:oo.bind k=some v) (hr : ∀r,oo=some r->Ret P f vs' (rep r)) (hk : ∀r,k r=some v->K (rep r)):CallP P f d vs rs K:=by subst e;obtain ⟨r,h1,h2⟩:=Option.bind_eq_some_iff.1 h;exact ⟨_,Tri.mono (hr r h1) (by rintro r' _ rfl;exact ⟨rfl,by simp [Co,hn r]⟩),hk r h2⟩
theorem FrzQ.z {T:V} {K:V->Prop} (h:K T.fz):FrzQ T 0 K:=⟨_,Ak T,h⟩
theorem FrzQ.d {T:V} {n:Nat} {K:V->Prop} (T':V) (e:T.fzAt n=T') (h:K T'):FrzQ T n K:=⟨_,e,h⟩
theorem LendP.io {γ:Type} {o:Option (β×γ)} {k:β×γ->Option ρ} (rep:β->V) (rep2:γ->V) {vs vs':List V} {rs:List Nat} {f d j:Nat} {T:V} {K:V->V->Prop} (e:vs=vs')
  (hn : ∀b,Co rs (rep b)=true) (hn2 : ∀b,Co rs (rep2 b)=true/\(rep2 b).node=true) (hu : ∀u,upd [] T u=some u) (h:o.bind k=some v) (hr : ∀x,o=some x->Sn P f vs' (rep x.1) j (rep2 x.2))
  (hk : ∀b c,k (b,c)=some v->K (rep b) (rep2 c)):LendP P f d vs rs j [] T K:=by
 subst e;obtain ⟨⟨b,c⟩,h1,h2⟩:=Option.bind_eq_some_iff.1 h;exact ⟨_,_,_,hr _ h1,⟨hn b,(hn2 c).1,(hn2 c).2,hu _⟩,hk b c h2⟩
theorem CallQ.io {γ:Type} {o:Option (β×γ)} {k:β×γ->Option ρ} (rep:β->V) (rep2:γ->V) {vs vs':List V} {rs:List Nat} {f d j r:Nat} {p:List Nat} {T:V} (e:vs=vs') (hroots:rs.contains r=false)
  (hn : ∀b,Co rs (rep b)=true) (hn2 : ∀b,Co rs (rep2 b)=true/\(rep2 b).node=true) (hT:look σ r = .val T) (h:o.bind k=some v) (hr : ∀x,o=some x->Sn P f vs' (rep x.1) j (rep2 x.2))
  (hk : ∀b c,k (b,c)=some v->Hs p T (rep2 c) λT'=>Ck (A4 d (.val (rep b)) (K6 r T' (p.length+1) σ)) K):CallQ P f d vs [(j,r,p)] rs K σ:=by
 subst e;obtain ⟨⟨b,c⟩,h1,h2⟩:=Option.bind_eq_some_iff.1 h;obtain ⟨T',h3,h4⟩:=Ct (hk b c h2);rw [Bi] at h4;refine ⟨by simp only [Nk,hroots];rfl,Tri.mono (hr _ h1) ?_⟩;rintro res outs ⟨rfl,ho⟩;refine ⟨hn b,?_⟩;rw [ho,hT];exact ⟨(hn2 c).1,by rw [h3];show K (A4 d _ (K6 r T' (p.length+Ov (rep2 c)) σ));rw [Akx (hn2 c).2];exact h4⟩
instance inhSum {α δ:Type} [Inhabited α]:Inhabited (α ⊕ δ):=⟨.inl default⟩
theorem LendQ.give2 (n:Nat) (rep:β->V) {g:Option Nat} {bs:List A} {vs vs' ds:List V} {rs:List Nat} {f d j1 j2 r:Nat} {p1 p2:List Nat} {T:V}
  (e:Aw0 n bs.length g vs=vs') (hroots:Nk σ [(n+j1,r,p1),(n+j2,r,p2)] rs=true) (hd1:ds[j1]? = some .dead) (hd2:ds[j2]? = some .dead)
  (hn : ∀b,Co rs (rep b)=true) (hT:look σ r = .val T) (h:oo.bind k=some v) (hr : ∀x,oo=some x->Sn P f vs' (rep x) n (Ax1 g ds))
  (hk : ∀b,k b=some v->Hs p1 T .dead λT1=>Hs p2 T1 .dead λT2=>Hs p1 T2 .dead λT'=>Ck (A4 d (.val (rep b)) (K6 r T' (min p1.length p2.length) σ)) K) :
  LendQ P f d n g bs vs [(n+j1,r,p1),(n+j2,r,p2)] rs K σ:=by
 subst e;obtain ⟨b,h1,h2⟩:=Option.bind_eq_some_iff.1 h;obtain ⟨T1,h3,h4⟩:=Ct (hk b h2);obtain ⟨T2,h5,h6⟩:=Ct h4;obtain ⟨T',h7,h8⟩:=Ct h6;rw [Bi] at h8;refine ⟨hroots,Tri.mono (hr _ h1) ?_⟩;rintro res outs ⟨rfl,ho⟩;have hlt:=(List.getElem?_eq_some_iff.1 ho).1;have hdrop:outs.drop n=Ax1 g ds::outs.drop (n+1):=by rw [List.drop_eq_getElem_cons hlt,(List.getElem?_eq_some_iff.1 ho).2]
 have htl:(outs.take n).length=n:=by rw [List.length_take];omega
 have g (j:Nat) (hj:ds[j]? = some .dead):(outs.take n++(ds++outs.drop (n+1)))[n+j]? = some .dead:=by rw [List.getElem?_append_right (by omega),htl,show n+j-n=j by omega,List.getElem?_append_left (List.getElem?_eq_some_iff.1 hj).1];exact hj
 unfold Xy;rw [hdrop];simp only [A5z];show Ga d [(n+j1,r,p1),(n+j2,r,p2)] rs K σ (rep b) (outs.take n++(ds++outs.drop (n+1)));refine ⟨hn b,?_⟩;rw [g j1 hd1,g j2 hd2];refine ⟨by cases rs<;>rfl,?_⟩;have hb:Nat.beq r r=true:=Nat.beq_refl r;simp only [Avn,hb,hT,A78,h3,h5,h7];exact h8
end
abbrev Tgt:=Ex×List Nat×St
def atQ (t:Tgt):Ex->St->Prop:=λex σ=>ex=t.1/\restrict t.2.1 σ=t.2.2
def Ch {σ' τ:Type} (ks:List Nat) (st:σ'->St) (tg:τ->Tgt):σ' ⊕ τ->Ex->St->Prop
 | .inl s=>atQ (.normal,ks,st s)
 | .inr t=>atQ (tg t)
def Ex.isNormal:Ex->Bool
 | .normal=>true
 | .exit _=>false
 | .ret=>false
theorem LoopQ.o {σ' τ ρ:Type} {body:σ'->Option (σ' ⊕ τ)} {k:τ->Option ρ} {v:ρ} {s0:σ'} {P:Program} {c:ACode} {Q:Ex->St->Prop} {σ:St} (ks:List Nat) (st:σ'->St) (tg:τ->Tgt)
  (h:(Aq body s0).bind k=some v) (hb : ∀s o,body s=some o->vc P c (Ch ks st tg o) (st s)) (h0:restrict ks σ=st s0) (hn : ∀t,(tg t).1.isNormal=false) (ha : ∀t,k t=some v->Q (tg t).1 (tg t).2.2) :
  LoopQ P c Q σ:=by
 obtain ⟨t,h1,h2⟩:=Option.bind_eq_some_iff.1 h;obtain ⟨n,hit⟩:=Rd.1 h1;refine ⟨ks,n,?_⟩;rw [h0];clear h0 h h1
 induction n generalizing s0 with
 | zero=>cases hit
 | succ n ih=>
   simp only [Ami] at hit;split at hit
   ·cases hit
   ·rename_i s' e;refine U9 ?_ (Acb (hb _ _ e));rintro ex τ' ⟨h3,h4⟩;subst h3;show Ae4 (awp P c) ks (less Q) n (restrict ks τ');rw [h4];exact ih hit
   ·rename_i t' e;cases hit;refine U9 ?_ (Acb (hb _ _ e));rintro ex τ' ⟨h3,h4⟩;have hne:=hn t;rw [<-h3] at hne;have hq:=ha t h2;rw [<-h4,<-h3] at hq;cases ex with
    | normal=>cases hne
    | exit i=>exact .inr ⟨_,hq⟩
    | ret=>exact .inr ⟨_,hq⟩
theorem CutQ.o {τ ρ:Type} {e:Option τ} {k:τ->Option ρ} {v:ρ} {P:Program} {c:ACode} {Q:Ex->St->Prop} {σ:St} (tg:τ->Tgt)
  (h:e.bind k=some v) (hb : ∀t,e=some t->vc P c (atQ (tg t)) σ) (ha : ∀t,k t=some v->Q (tg t).1 (tg t).2.2):CutQ P c Q σ:=by
 obtain ⟨t,h1,h2⟩:=Option.bind_eq_some_iff.1 h;refine ⟨?_⟩;show awp P c (less Q) σ;refine U9 ?_ (Acb (hb t h1));rintro ex τ' ⟨h3,h4⟩;have hq:=ha t h2;rw [<-h4,<-h3] at hq;exact .inr ⟨_,hq⟩
abbrev rDd (_:Unit):V:= .dead
instance:NoFz rDd:=⟨λ_=>rfl⟩
end Go.Proofs.Ytaalgpkajkogkaa.Ax
