/-
 Part of the proof; see the last text of the claim.
-/
import Derived.Test.YtmkgjnphianalaaGreatAx3
namespace Go.Proofs.YtmkgjnphianalaaGreat.Ax
open Go
structure Br (b:Bool) (X Y:Prop):Prop where
 t:b=true->X
 f:b=false->Y
structure Ask (p X:Prop):Prop where
 p:p
 x:X
structure Elem (xs:List V) (j:Nat) (K:V->Prop):Prop where
 h:K (xs.getD j .dead)
structure Cells (xs:List V) (c n:Nat) (K:List V->Prop):Prop where
 h : ∃us,c+n<=xs.length/\(xs.drop c).take n=us/\K us
structure Kid (T:V) (c:Nat) (K:V->Prop):Prop where
 h : ∃k,T.stepOk=true/\T.kids[c]? = some k/\K k
structure SetKids (x:V) (c:Nat) (us:List V) (K:V->Prop):Prop where
 h : ∃x',x.setKids c us=some x'/\K x'
structure MkQ (d n:Nat) (z:V) (K:List V->Prop):Prop where
 h:K (List.replicate n z)
structure BslQ (d m:Nat) (us:List V) (K:List V->Prop):Prop where
 h:T4 m us=true/\K us
structure AppQ (d:Nat) (xs ys:List V) (K:List V->Prop):Prop where
 h:Dp (Bx ys)=true/\xs.length+ys.length<=LIM/\K (xs++ys)
structure NoOwn (ys:List V) (X Y:Prop):Prop where
 h:(Bf (Bx ys)=false/\X)\/(Bf (Bx ys)=true/\Y)
structure SlcQ (xs:List V) (l h:Int) (K:List V->Prop):Prop where
 h:0<=l/\l<=h/\h<=(xs.length:Int)/\K ((xs.drop l.toNat).take (h.toNat-l.toNat))
structure Idx (j:Int) (lo n:Nat) (K:Int->Prop):Prop where
 h:lo<=j->j<n->K j
def Ap:Nat->Nat->Nat
 | x,0=>x*0
 | x,1=>x
 | x,m+2=>x*(m+2)
theorem Aa (x:Nat):Ap x 1=x:=rfl
theorem Xt (x m:Nat):Ap x m=x*m:=by unfold Ap;split<;>simp
def A5m (a b:Int):Int:=IntKind.i64.wrap (a*2^(min b.toNat IntKind.i64.bits))
def A28 (a b:Int):Int:=a.fdiv (2^(min b.toNat IntKind.i64.bits))
def A6m (a b:Int):Int:=IntKind.i64.wrap (BitVec.ofInt IntKind.i64.bits a &&& BitVec.ofInt IntKind.i64.bits b).toNat
def orI (a b:Int):Int:=IntKind.i64.wrap (BitVec.ofInt IntKind.i64.bits a ||| BitVec.ofInt IntKind.i64.bits b).toNat
def Bel (a b:Int):Int:=IntKind.i64.wrap (BitVec.ofInt IntKind.i64.bits a ^^^ BitVec.ofInt IntKind.i64.bits b).toNat
def Bag (a b:Int):Int:=IntKind.i64.wrap (BitVec.ofInt IntKind.i64.bits a &&& ~~~BitVec.ofInt IntKind.i64.bits b).toNat
theorem Br.not {b:Bool} {X Y:Prop} (h:Br b Y X):Br (!b) X Y:=by
 cases b
 ·exact ⟨λ_=>h.f rfl,λe=>Bool.noConfusion e⟩
 exact ⟨λe=>Bool.noConfusion e,λ_=>h.t rfl⟩
theorem Br.beq {a b:Int} {X Y:Prop} (h1:a=b->X) (h2:a≠b->Y):Br (a==b) X Y:=⟨λh=>h1 (by simpa using h),λh=>h2 (by simpa using h)⟩
structure Len (xs:List V) (K:Nat->Prop):Prop where
 h:K xs.length
theorem Len.map {α:Type} {f:α->V} {xs:List α} {K:Nat->Prop} (h:K xs.length):Len (xs.map f) K:=⟨by rw [List.length_map];exact h⟩
theorem Len.app {xs ys:List V} {K:Nat->Prop} (h:K (xs.length+ys.length)):Len (xs++ys) K:=⟨by rw [List.length_append];exact h⟩
theorem Br.yes {X Y:Prop} (h:X):Br true X Y:=⟨λ_=>h,λe=>Bool.noConfusion e⟩
theorem Br.no {X Y:Prop} (h:Y):Br false X Y:=⟨λe=>Bool.noConfusion e,λ_=>h⟩
mutual
def S6:A->(A->Prop)->Prop
 | .top,K=>K .top
 | .val v,K=>K (.val v)
 | .ref r p,K=>K (.ref r p)
 | .addr r p c,K=>K (.addr r p c)
 | .fad cs,K=>K (.fad cs)
 | .agg as,K=>Af0 as λbs=>K (.agg bs)
 | .clo f as,K=>Af0 as λbs=>K (.clo f bs)
 | .tie b f p q,K=>Af0 p λps=>Af0 q λqs=>K (.tie b f ps qs)
def Af0:List A->(List A->Prop)->Prop
 | [],K=>K []
 | a::r,K=>S6 a λb=>Af0 r λs=>K (b::s)
end
mutual
theorem Q5:(a:A)->(K:A->Prop)->S6 a K=K a
 | .top,_=>rfl
 | .val _,_=>rfl
 | .ref _ _,_=>rfl
 | .addr _ _ _,_=>rfl
 | .fad _,_=>rfl
 | .agg as,K=>by simp only [S6];rw [Aad as]
 | .clo f as,K=>by simp only [S6];rw [Aad as]
 | .tie b f p q,K=>by simp only [S6];rw [Aad p,Aad q]
theorem Aad:(as:List A)->(K:List A->Prop)->Af0 as K=K as
 | [],_=>rfl
 | a::r,K=>by simp only [Af0];rw [Q5 a,Aad r]
end
def Bz:St->(St->Prop)->Prop
 | [],K=>K []
 | (k,a)::r,K=>S6 a λb=>Bz r λs=>K ((k,b)::s)
theorem A5 : ∀(σ:St) (K:St->Prop),Bz σ K=K σ:=by
 intro σ
 induction σ with
 | nil=>intro K;rfl
 | cons e r ih=>intro K;obtain ⟨k,a⟩:=e;simp only [Bz];rw [Q5,ih]
def Aqq (o:Option St) (K:St->Prop):Prop:=match o with
 | some σ=>Bz σ K
 | none=>False
theorem Adl {o:Option St} {K:St->Prop} (h:Aqq o K) : ∃σ,o=some σ/\K σ:=by
 unfold Aqq at h;split at h
 ·rw [A5] at h;exact ⟨_,rfl,h⟩
 exact h.elim
def Ox (s:Nat) (b:Bool):St->St
 | []=>[]
 | (k,a)::r=>match Nat.beq k s with
   | true=>(k,.val (.bool b))::r
   | false=>(k,a)::Ox s b r
theorem Uv {s:Nat} {b:Bool} : ∀ {σ:St},look σ s = .val (.bool b)->Ox s b σ=σ:=by
 intro σ
 induction σ with
 | nil=>intro _;rfl
 | cons e r ih=>
   obtain ⟨k,a⟩:=e;intro h;simp only [look] at h;simp only [Ox];by_cases hk:k=s
   ·rw [if_pos hk] at h;subst hk;rw [show Nat.beq k k=true by simp,h]
   ·rw [if_neg hk] at h;rw [show Nat.beq k s=false by
     cases hb:Nat.beq k s with
     | false=>rfl
     | true=>exact absurd (Nat.eq_of_beq_eq_true hb) hk]
    simp only [ih h]
def Beg (x:X) (b:Bool) (σ:St):St:=match x with
 | .t s=>Ox s b σ
 | .c _=>σ
def Amb:List Nat->V->(V->Prop)->Prop
 | [],T,K=>K T
 | c::p,T,K=>Kid T c λk=>Amb p k K
theorem Qh : ∀ {p:List Nat} {T:V} {K:V->Prop},Amb p T K -> ∃u,sub p T=some u/\K u:=by
 intro p
 induction p with
 | nil=>intro T K h;exact ⟨T,rfl,h⟩
 | cons c p ih=> intro T K h;obtain ⟨k,h1,h2,h3⟩:=h.h;obtain ⟨u,h4,h5⟩:=ih h3;exact ⟨u,by simp only [sub,h1,h2,if_true,h4],h5⟩
def Abz (T:A) (p:List Nat) (K:V->Prop):Prop:=match T with
 | .val V=>Amb p V K
 | _=>False
def M3:List Nat->V->V->(V->Prop)->Prop
 | [],_,u,K=>K u
 | c::p,T,u,K=>Kid T c λk=>M3 p k u λk'=>SetKids T c [k'] K
theorem Fk : ∀ {p:List Nat} {T u:V} {K:V->Prop},M3 p T u K -> ∃T',upd p T u=some T'/\K T':=by
 intro p
 induction p with
 | nil=>intro T u K h;exact ⟨u,rfl,h⟩
 | cons c p ih=> intro T u K h;obtain ⟨k,h1,h2,h3⟩:=h.h;obtain ⟨k',h4,h5⟩:=ih h3;obtain ⟨T',h6,h7⟩:=h5.h;exact ⟨T',by simp only [upd,h2,h4,h6],h7⟩
theorem H4 {σ:St} {r:Nat} {p:List Nat} {K:V->Prop} (h:Abz (look σ r) p K) : ∃T u,look σ r = .val T/\sub p T=some u/\Bp σ r p=some u/\K u:=by
 unfold Abz at h;split at h
 ·rename_i T hT;obtain ⟨u,h1,h2⟩:=Qh h;exact ⟨T,u,hT,h1,by simp [Bp,hT,h1],h2⟩
 exact h.elim
def Ak5 (a b:A) (K:Int->Int->Prop) (E:Prop):Prop:=match a,b with
 | .val (.int .i64 x),.val (.int .i64 y)=>K x y
 | _,_=>E
abbrev InI (n:Int):Prop:= -9223372036854775808<=n/\n<=9223372036854775807
theorem A58 {a b:A} {K:Int->Int->Prop} {E:Prop} (h:Ak5 a b K E):(∃x y,a = .val (.int .i64 x)/\b = .val (.int .i64 y)/\K x y)\/E:=by
 unfold Ak5 at h;split at h
 ·exact .inl ⟨_,_,rfl,rfl,h⟩
 exact .inr h
def Je (o:Option (Nat×A)) (K:Nat->A->Prop):Prop:=match o with
 | some (d,a)=>S6 a λb=>K d b
 | none=>False
theorem Lg {o:Option (Nat×A)} {K:Nat->A->Prop} (h:Je o K) : ∃d a,o=some (d,a)/\K d a:=by
 unfold Je at h;split at h
 ·rw [Q5] at h;exact ⟨_,_,rfl,h⟩
 exact h.elim
def Bfc (d:Nat) (xs:List V) (K:Nat->A->Prop):Prop:=Len xs λn=>K d (.val (.int .i64 n))
def Bap (d m m':Nat) (xs:List V) (j:Int) (own:Option (Nat×List Nat)) (K:Nat->A->Prop):Prop:=match Nat.beq m' m with
 | true=>Len xs λn=>Ask (0<=j/\j<n) (match own with
   | none=>Elem xs j.toNat λu=>K d (.fad u.cells)
   | some (r,p)=>K d (.addr r p (Ap j.toNat m)))
 | false=>False
structure LkQ (es:List (ByteArray×Lf)) (s:ByteArray) (z:Lf) (ok:Bool) (K:V->Prop):Prop where
 h:K (A25 es s z ok)
structure MsQ (es:List (ByteArray×Lf)) (s:ByteArray) (x:Lf) (K:List (ByteArray×Lf)->Prop):Prop where
 h:K (W6 es s x)
structure BsQ (xs:List V) (K:ByteArray->Prop):Prop where
 h : ∃ns,Ta xs=some ns/\K (Apv ns)
def A42 (d m:Nat) (xs:List V) (K:Nat->A->Prop):Prop:=match Nat.beq m 1 with
 | true=>BsQ xs λs=>K d (.val (.str s))
 | false=>False
structure FrzQ (T:V) (n:Nat) (K:V->Prop):Prop where
 h : ∃T',T.fzAt n=T'/\K T'
def Amm (o:AOp) (σ:St) (K:Nat->A->Prop):Prop:=match o with
 | .mlk d x k z ok=>match Ai σ x,Ai σ k with
   | .val (.mp o es),.val (.str s)=>(match o with
     | false=>LkQ es s z ok λv=>K d (.val v)
     | true=>False)
   | .ref r p,.val (.str s)=>Abz (look σ r) p λu=>match u with
     | .mp _ es=>LkQ es s z ok λv=>K d (.val v)
     | _=>False
   | _,_=>False
 | .bstr d x=>match Ai σ x with
   | .val (.sl o m xs)=>(match o with
     | false=>A42 d m xs K
     | true=>False)
   | .ref r p=>Abz (look σ r) p λu=>match u with
     | .sl _ m xs=>A42 d m xs K
     | _=>False
   | _=>False
 | .bin d op x y=>match op with
   | .add=>Ak5 (Ai σ x) (Ai σ y) (λa b=>Ask (InI (a+b)) (K d (.val (.int .i64 (a+b))))) (Je (qR o σ) K)
   | .sub=>Ak5 (Ai σ x) (Ai σ y) (λa b=>Ask (InI (a-b)) (K d (.val (.int .i64 (a-b))))) (Je (qR o σ) K)
   | .mul=>Ak5 (Ai σ x) (Ai σ y) (λa b=>Ask (InI (a*b)) (K d (.val (.int .i64 (a*b))))) (Je (qR o σ) K)
   | .quo=>Ak5 (Ai σ x) (Ai σ y) (λa b=>Ask (b≠0/\InI (a.tdiv b)) (K d (.val (.int .i64 (a.tdiv b))))) (Je (qR o σ) K)
   | .rem=>Ak5 (Ai σ x) (Ai σ y) (λa b=>Ask (b≠0) (K d (.val (.int .i64 (a.tmod b))))) (Je (qR o σ) K)
   | .shl=>Ak5 (Ai σ x) (Ai σ y) (λa b=>Ask (0<=b) (K d (.val (.int .i64 (A5m a b))))) (Je (qR o σ) K)
   | .shr=>Ak5 (Ai σ x) (Ai σ y) (λa b=>Ask (0<=b) (K d (.val (.int .i64 (A28 a b))))) (Je (qR o σ) K)
   | .and=>Ak5 (Ai σ x) (Ai σ y) (λa b=>K d (.val (.int .i64 (A6m a b)))) (Je (qR o σ) K)
   | .or=>Ak5 (Ai σ x) (Ai σ y) (λa b=>K d (.val (.int .i64 (orI a b)))) (Je (qR o σ) K)
   | .xor=>Ak5 (Ai σ x) (Ai σ y) (λa b=>K d (.val (.int .i64 (Bel a b)))) (Je (qR o σ) K)
   | .andNot=>Ak5 (Ai σ x) (Ai σ y) (λa b=>K d (.val (.int .i64 (Bag a b)))) (Je (qR o σ) K)
   | _=>Je (qR o σ) K
 | .pick d c x y=>match Ai σ c with
   | .val (.bool b)=>Br b (Je ((nt (Ai σ x)).map (d,·)) K) (Je ((nt (Ai σ y)).map (d,·)) K)
   | _=>False
 | .iad d m x i=>match Ai σ x,Ai σ i with
   | .val (.sl _ m' xs),.val (.int _ j)=>Bap d m m' xs j none K
   | .ref r p,.val (.int _ j)=>Abz (look σ r) p λu=>match u with
     | .sl o m' xs=>match o with
       | true=>Bap d m m' xs j (some (r,p)) K
       | false=>False
     | _=>False
   | _,_=>False
 | .aad d m n x i=>match Gj σ (Ai σ x),Ai σ i with
   | some l,.val (.int _ j)=>Ask (0<=j/\j<n) (Idx j 0 n λj=>S6 (Ako (Ap j.toNat m) l) λb=>K d b)
   | _,_=>False
 | .ld d n ag x=>match Gj σ (Ai σ x) with
   | some (.own r p c)=>Abz (look σ r) p λu=>Cells u.kids c n λks=>S6 (mkA ag (Iu r p c ks)) λb=>K d b
   | _=>Je (qR o σ) K
 | .mk d m z x=>match Ai σ x with
   | .val (.int _ n)=>Ask (0<=n/\n<=(LIM:Int)) (MkQ d n.toNat z.up λl=>K d (.val (.sl true m l)))
   | _=>False
 | .mkc d m _ x=>match Ai σ x with
   | .val (.int _ n)=>Ask (0<=n/\n<=(LIM:Int)) (K d (.val (.sl true m [])))
   | _=>False
 | .bsl d m ps=>match J5 (ps.map (Ai σ)) with
   | some Us=>BslQ d m (upL Us) λl=>K d (.val (.sl true m l))
   | none=>False
 | .mkr d m z x=>match Ai σ x with
   | .val (.int _ n)=>Ask (0<=n/\n<=(LIM:Int)) (MkQ d n.toNat z.up λl=>FrzQ (.sl true m l) 0 λT'=>K d (.val T'))
   | _=>False
 | .bslr d m ps=>match J5 (ps.map (Ai σ)) with
   | some Us=>BslQ d m (upL Us) λl=>FrzQ (.sl true m l) 0 λT'=>K d (.val T')
   | none=>False
 | .slc d m x lo hi=>match Ai σ x with
   | .val (.ptr o (.agg cs))=>(match o with
     | true=>False
     | false=>(match Az1 m cs (lo.map (Ai σ)) (hi.map (Ai σ)) with
       | true=>K d (.val (.sl false 1 cs))
       | false=>False))
   | .val (.sl o m' xs)=>(match o with
     | true=>False
     | false=>(match Nat.beq m' m with
       | true=>(match Afu 0 (lo.map (Ai σ)) with
         | some l=>(match hi with
           | none=>Len xs λn=>SlcQ xs l n λys=>K d (.val (.sl false m ys))
           | some y=>(match Aw1 (Ai σ y) with
             | some h=>SlcQ xs l h λys=>K d (.val (.sl false m ys))
             | none=>False))
         | none=>False)
       | false=>False))
   | _=>False
 | .len d x=>match Ai σ x with
   | .val (.sl _ _ xs)=>Bfc d xs K
   | .ref r p=>Abz (look σ r) p λu=>match u with
     | .sl _ _ xs=>Bfc d xs K
     | _=>False
   | _=>Je (qR o σ) K
 | .sidx d x i=>(match Ai σ x,Ai σ i with
   | .val (.str s),.val (.int _ j)=>Ask (0<=j/\j<(s.size:Int)) (K d (.val (.int .u8 (Al9 s j))))
   | _,_=>False)
 | o=>Je (qR o σ) K
theorem Auw {d m m':Nat} {xs:List V} {j:Int} {own:Option (Nat×List Nat)} {K:Nat->A->Prop} (h:Bap d m m' xs j own K):m'=m/\0<=j/\j<xs.length/\(match own with
  | none=>K d (.fad (xs.getD j.toNat .dead).cells)
  | some (r,p)=>K d (.addr r p (j.toNat*m))):=by
 unfold Bap at h;split at h
 ·rename_i hm;have h1:=h.h;refine ⟨Nat.eq_of_beq_eq_true hm,h1.p.1,h1.p.2,?_⟩;cases own with
  | none=>exact h1.x.h
  | some e=>have:=h1.x;simpa [Xt] using this
 exact h.elim
theorem Ar1 {d m:Nat} {xs:List V} {K:Nat->A->Prop} (h:A42 d m xs K) : ∃ns,m=1/\Ta xs=some ns/\K d (.val (.str (Apv ns))):=by
 unfold A42 at h;split at h
 ·rename_i hm;obtain ⟨ns,h1,h2⟩:=h.h;exact ⟨ns,Nat.eq_of_beq_eq_true hm,h1,h2⟩
 exact h.elim
theorem Xo {o:AOp} {σ:St} {K:Nat->A->Prop} (h:Amm o σ K) : ∃d a,qR o σ=some (d,a)/\K d a:=by
 unfold Amm at h;split at h
 ·rename_i d x k z ok;split at h
  ·rename_i o es s hx hk;split at h
   ·exact ⟨_,_,by simp [qR,hx,hk,mpA,Ej,A1x],h.h⟩
   exact h.elim
  ·rename_i r p s hx hk;obtain ⟨T,u,hT,hs,hn,hq⟩:=H4 h;split at hq
   ·exact ⟨_,_,by simp [qR,hx,hk,mpA,hn,Ej,A1x],hq.h⟩
   exact hq.elim
  exact h.elim
 ·rename_i d x;split at h
  ·rename_i o m xs hx;split at h
   ·obtain ⟨ns,h1,h2,h3⟩:=Ar1 h;subst h1;exact ⟨_,_,by simp [qR,hx,slA,h2],h3⟩
   exact h.elim
  ·rename_i r p hx;obtain ⟨T,u,hT,hs,hn,hq⟩:=H4 h;split at hq
   ·obtain ⟨ns,h1,h2,h3⟩:=Ar1 hq;subst h1;exact ⟨_,_,by simp [qR,hx,slA,hn,h2],h3⟩
   exact hq.elim
  exact h.elim
 ·rename_i d op x y;split at h
  case h_12=>exact Lg h
  all_goals
   rcases A58 h with ⟨a,b,ha,hb,hk⟩ | h
   case inr=>exact Lg h
  ·exact ⟨_,_,by simp [qR,ha,hb,Ej,V.isBool,Wy,Xd hk.p.1 hk.p.2],hk.x⟩
  ·exact ⟨_,_,by simp [qR,ha,hb,Ej,V.isBool,Wy,Xd hk.p.1 hk.p.2],hk.x⟩
  ·exact ⟨_,_,by simp [qR,ha,hb,Ej,V.isBool,Wy,Xd hk.p.1 hk.p.2],hk.x⟩
  ·exact ⟨_,_,by simp [qR,ha,hb,Ej,V.isBool,Wy,hk.p.1,Xd hk.p.2.1 hk.p.2.2],hk.x⟩
  ·exact ⟨_,_,by simp [qR,ha,hb,Ej,V.isBool,Wy,hk.p],hk.x⟩
  ·exact ⟨d,.val (.int .i64 (A5m a b)),by simp [qR,ha,hb,Ej,V.isBool,Wy,Int.not_lt.2 hk.p,A5m],hk.x⟩
  ·exact ⟨d,.val (.int .i64 (A28 a b)),by simp [qR,ha,hb,Ej,V.isBool,Wy,Int.not_lt.2 hk.p,A28],hk.x⟩
  ·exact ⟨d,.val (.int .i64 (A6m a b)),by simp [qR,ha,hb,Ej,V.isBool,Wy,A6m],hk⟩
  ·exact ⟨d,.val (.int .i64 (orI a b)),by simp [qR,ha,hb,Ej,V.isBool,Wy,orI],hk⟩
  ·exact ⟨d,.val (.int .i64 (Bel a b)),by simp [qR,ha,hb,Ej,V.isBool,Wy,Bel],hk⟩
  exact ⟨d,.val (.int .i64 (Bag a b)),by simp [qR,ha,hb,Ej,V.isBool,Wy,Bag],hk⟩
 ·rename_i d c x y;split at h
  ·rename_i b hb;cases b
   ·obtain ⟨d',a,h1,h2⟩:=Lg (h.f rfl);exact ⟨d',a,by simp only [qR,hb];simpa using h1,h2⟩
   obtain ⟨d',a,h1,h2⟩:=Lg (h.t rfl);exact ⟨d',a,by simp only [qR,hb];simpa using h1,h2⟩
  exact h.elim
 ·rename_i d m x i;split at h
  ·rename_i hx hi;obtain ⟨h1,h2,h3,h4⟩:=Auw h;subst h1;exact ⟨_,_,by simp only [qR,hx,hi,h2,h3,and_self,if_true],h4⟩
  ·rename_i hx hi;obtain ⟨T,u,hT,hs,hn,hk⟩:=H4 h;split at hk
   case h_2=>exact hk.elim
   split at hk
   case h_2=>exact hk.elim
   obtain ⟨h1,h2,h3,h4⟩:=Auw hk;subst h1;exact ⟨_,_,by simp only [qR,hx,hi,hn,h2,h3,and_self,if_true],h4⟩
  exact h.elim
 ·rename_i d m n x i;split at h
  ·rename_i hl hi;have h2:=h.x.h h.p.1 h.p.2;rw [Q5,Xt] at h2;exact ⟨_,_,by simp only [qR,hl,hi,h.p.1,h.p.2,and_self,if_true],h2⟩
  exact h.elim
 ·rename_i d n ag x;split at h
  ·rename_i r p c hl;obtain ⟨T,u,hT,hs,hn,hk⟩:=H4 h;obtain ⟨ks,h1,h2,h3⟩:=hk.h;rw [Q5] at h3;subst h2;exact ⟨_,_,by simp [qR,hl,Adn,hn,h1],h3⟩
  exact Lg h
 ·rename_i d m z x;split at h
  ·rename_i hx;exact ⟨_,_,by simp [qR,hx,h.p.1,h.p.2],h.x.h⟩
  exact h.elim
 ·rename_i d m z x;split at h
  ·rename_i hx;exact ⟨_,_,by simp [qR,hx,h.p.1,h.p.2],h.x⟩
  exact h.elim
 ·rename_i d m ps;split at h
  ·rename_i Us hU;exact ⟨_,_,by simp [qR,hU,h.h.1],h.h.2⟩
  exact h.elim
 ·rename_i d m z x;split at h
  ·rename_i hx;obtain ⟨T',e1,h1⟩:=h.x.h.h;rw [Av] at e1;subst e1;exact ⟨_,_,by simp [qR,hx,h.p.1,h.p.2],h1⟩
  exact h.elim
 ·rename_i d m ps;split at h
  ·rename_i Us hU;obtain ⟨T',e1,h1⟩:=h.h.2.h;rw [Av] at e1;subst e1;exact ⟨_,_,by simp [qR,hU,h.h.1],h1⟩
  exact h.elim
 ·rename_i d m x lo hi;split at h
  case h_3=>exact h.elim
  case h_1=>
   rename_i o cs hx;split at h
   ·exact h.elim
   ·split at h
    case h_2=>exact h.elim
    rename_i hao;exact ⟨_,_,by simp only [qR,Asc,hx];rw [if_pos hao];rfl,h⟩
  rename_i o m' xs hx;split at h
  ·exact h.elim
  split at h
  case h_2=>exact h.elim
  rename_i hm;have hm':=Nat.eq_of_beq_eq_true hm;split at h
  case h_2=>exact h.elim
  rename_i l hl;split at h
  ·obtain ⟨h0,h1,h2,h3⟩:=h.h.h;have e2:Afu (xs.length:Int) ((none:Option X).map (Ai σ))=some (xs.length:Int):=rfl;exact ⟨_,_,by simp only [qR,Asc,hx,hl,e2];rw [if_pos ⟨hm',h0,h1,h2⟩];rfl,h3⟩
  rename_i y;split at h
  case h_2=>exact h.elim
  rename_i hh hy;obtain ⟨h0,h1,h2,h3⟩:=h.h;have e2:Afu (xs.length:Int) ((some y).map (Ai σ))=some hh:=hy;exact ⟨_,_,by simp only [qR,Asc,hx,hl,e2];rw [if_pos ⟨hm',h0,h1,h2⟩];rfl,h3⟩
 ·rename_i d x;split at h
  ·rename_i hx;exact ⟨_,_,by simp [qR,hx,Als],h.h⟩
  ·rename_i hx;obtain ⟨T,u,hT,hs,hn,hk⟩:=H4 h;split at hk
   case h_2=>exact hk.elim
   exact ⟨_,_,by simp [qR,hx,Als,hn],hk.h⟩
  exact Lg h
 ·rename_i d x i;split at h
  case h_2=>exact h.elim
  rename_i hx hi;exact ⟨_,_,by simp only [qR,hx,hi];rw [if_pos h.p],h.x⟩
 exact Lg h
def yK (σ:St) (m:Nat) (y:A) (K:List V->St->Prop):Prop:=match y with
 | .val (.sl _ m' ys)=>match Nat.beq m' m with
   | true=>K ys σ
   | false=>False
 | .val (.nilsl _)=>K [] σ
 | .ref r p=>Abz (look σ r) p λu=>match u with
   | .sl o m' ys=>match o with
     | true=>match Nat.beq m' m with
       | true=>NoOwn ys (K ys σ) (match Hu σ (.ref r p) with
         | some (_,σ1)=>K ys σ1
         | none=>False)
       | false=>False
     | false=>False
   | _=>False
 | _=>False
theorem A4y {σ:St} {m:Nat} {y:A} {K:List V->St->Prop} (h:yK σ m y K) : ∃ys σ1,yS σ m y=some (ys,σ1)/\K ys σ1:=by
 unfold yK at h;split at h
 ·split at h
  ·rename_i hm;exact ⟨_,_,by simp [yS,Nat.eq_of_beq_eq_true hm],h⟩
  exact h.elim
 ·exact ⟨_,_,by simp [yS],h⟩
 ·obtain ⟨T,u,hT,hs,hn,hk⟩:=H4 h;split at hk
  case h_2=>exact hk.elim
  split at hk
  case h_2=>exact hk.elim
  split at hk
  case h_2=>exact hk.elim
  rename_i hm;have hm':=Nat.eq_of_beq_eq_true hm;rcases hk.h with ⟨h1,h2⟩ | ⟨h1,h2⟩
  ·exact ⟨_,_,by simp [yS,hn,hm',h1],h2⟩
  split at h2
  ·rename_i U σ1 ht;exact ⟨_,_,by simp [yS,hn,hm',h1,ht],h2⟩
  exact h2.elim
 exact h.elim
def Bd4:AOp->Bool
 | .mov .. => true
 | .pick .. => true
 | .bin .. => true
 | .binb .. => true
 | .un .. => true
 | .cnv .. => true
 | .len .. => true
 | .ext .. => true
 | .iad .. => true
 | .aad .. => true
 | .fadr .. => true
 | .ld .. => true
 | .nck .. => true
 | .mk .. => true
 | .mkc .. => true
 | .mkr .. => true
 | .bslr .. => true
 | .alc .. => true
 | .mkf .. => true
 | .slc .. => true
 | .sidx .. => true
 | .mkm .. => true
 | .mlk .. => true
 | .bstr .. => true
 | _=>false
def Bcu {α:Type} (f:α->V) (l:List α) (i:Nat):List V:=(l.map f).set i .dead
def holeW {α:Type} (f:α->V) (l:List α) (i:Nat) (v:V):List V:=(l.map f).set i v
def Alk (σ:St) (a:A) (K:V->St->Prop):Prop:=match a with
 | .ref r (c::p)=>(match look σ r with
   | .val T=>Amb (c::p) T λu=>M3 (c::p) T .dead λT'=>K u (turnP r T' (c::p) σ)
   | _=>False)
 | a=>match Ie σ a with
   | some (v,σ')=>K v σ'
   | none=>False
theorem Xw {σ:St} {a:A} {K:V->St->Prop} (h:Alk σ a K) : ∃v σ',Ie σ a=some (v,σ')/\K v σ':=by
 unfold Alk at h;split at h
 ·rename_i r c p;split at h
  case h_2=>exact h.elim
  rename_i T hT;obtain ⟨u,h1,h2⟩:=Qh h;obtain ⟨T',h3,h4⟩:=Fk h2;exact ⟨u,_,by simp only [Ie,Hu,hT,h1,h3],h4⟩
 split at h
 ·exact ⟨_,_,by assumption,h⟩
 exact h.elim
def A85 (o:AOp) (σ:St) (K:St->Prop):Prop:=match o with
 | .mup m k v=>match Ai σ m,Ai σ k,Ai σ v with
   | .ref r p,.val (.str s),.val u=>match vLf u with
     | some x=>match look σ r with
       | .val T=>Amb p T λnd=>match nd with
         | .mp o es=>(match o with
           | true=>MsQ es s x λes'=>M3 p T (.mp true es') λT'=>Bz (Hx r T' (p.length+1) σ) K
           | false=>False)
         | _=>False
       | _=>False
     | none=>False
   | _,_,_=>False
 | .bsl d m ps=>match Ra σ (ps.map (Ai σ)) with
   | some (Us,σ1)=>BslQ d m Us λl=>Bz (As d (.val (.sl true m l)) σ1) K
   | none=>False
 | .app d m x y=>yK σ m (Ai σ y) λys σ1=>Alk σ1 (Ai σ1 x) λv σ2=>match v with
   | .sl o m' xs=>(match o with
     | true=>(match Nat.beq m' m with
       | true=>AppQ d xs ys λl=>Bz (As d (.val (.sl true m l)) σ2) K
       | false=>False)
     | false=>False)
   | _=>False
 | .slt d m x hi=>match Aw1 (Ai σ hi) with
   | some h=>Alk σ (Ai σ x) λv σ2=>match v with
     | .sl o m' xs=>(match o with
       | true=>(match Nat.beq m' m with
         | true=>SlcQ xs 0 h λys=>Bz (As d (.val (.sl true m ys)) σ2) K
         | false=>False)
       | false=>False)
     | _=>False
   | none=>False
 | .idx d m n ag x i=>match Ai σ i with
   | .val (.int k j)=>Ask (0<=j/\j<n) (Idx j 0 n λj=>Aqq (if Ays σ (Ai σ x) then Bce d m n ag (Ai σ x) (.val (.int k j)) σ else none) K)
   | _=>False
 | .st n x v=>match Ie σ (Ai σ v) with
   | some (U,σ1)=>match Gj σ1 (Ai σ1 x) with
     | some (.own r p c)=>match look σ1 r with
       | .val T=>Amb p T λnd=>match nd.node&&decide (U.cells.length=n)&&Dp U.cells with
         | true=>SetKids nd c U.cells λnd'=>M3 p T nd' λT'=>Bz (Hx r T' (p.length+1) σ1) K
         | false=>False
       | _=>False
     | _=>False
   | none=>False
 | .nilq d neg x=>match Ai σ x with
   | .val (.sl o _ xs)=>(match o with
     | true=>False
     | false=>Len xs λn=>Ask ((0:Int)<(n:Int)) (Bz (As d (.val (.bool neg)) σ) K))
   | .ref r p=>Abz (look σ r) p λu=>match u with
     | .sl _ _ xs=>Len xs λn=>Ask ((0:Int)<(n:Int)) (Bz (As d (.val (.bool neg)) σ) K)
     | _=>False
   | _=>Aqq (Cb (.nilq d neg x) σ) K
 | o=>Aqq (Cb o σ) K
theorem Ay3 {o:AOp} {σ:St} {K:St->Prop} (h:A85 o σ K) : ∃σ',Cb o σ=some σ'/\K σ':=by
 unfold A85 at h;split at h
 ·rename_i m k v;split at h
  case h_2=>exact h.elim
  rename_i r p s u hm hk hv;split at h
  case h_2=>exact h.elim
  rename_i x hx;split at h
  case h_2=>exact h.elim
  rename_i T hT;obtain ⟨nd,hs,hq⟩:=Qh h;split at hq
  case h_2=>exact hq.elim
  rename_i o es;split at hq
  case h_2=>exact hq.elim
  obtain ⟨T',h1,h2⟩:=Fk hq.h;rw [A5] at h2;exact ⟨_,by simp [Cb,Bb0,hm,hk,hv,hT,hs,Ej,A1x,hx,h1],h2⟩
 ·rename_i d m ps;split at h
  ·rename_i Us σ1 hU;obtain ⟨h1,h2⟩:=h.h;rw [A5] at h2;exact ⟨_,by simp [Cb,Az0,hU,h1],h2⟩
  exact h.elim
 ·rename_i d m x y;obtain ⟨ys,σ1,hy,hk⟩:=A4y h;obtain ⟨v,σ2,hX,hk⟩:=Xw hk;split at hk
  case h_2=>exact hk.elim
  rename_i o m' xs;split at hk
  case h_2=>exact hk.elim
  split at hk
  case h_2=>exact hk.elim
  rename_i hm;have hm':=Nat.eq_of_beq_eq_true hm;obtain ⟨h1,h2,h3⟩:=hk.h;rw [A5] at h3;exact ⟨_,by simp [Cb,A6i,hy,hX,hm',h1,h2],h3⟩
 ·rename_i d m x hi;split at h
  case h_2=>exact h.elim
  rename_i hh hn;obtain ⟨v,σ2,hX,hk⟩:=Xw h;split at hk
  case h_2=>exact hk.elim
  rename_i o m' xs;split at hk
  case h_2=>exact hk.elim
  split at hk
  case h_2=>exact hk.elim
  rename_i hm;have hm':=Nat.eq_of_beq_eq_true hm;obtain ⟨_,h1,h2,h3⟩:=hk.h;rw [A5] at h3;exact ⟨_,by simp only [Cb,A95,hn,hX,hm',h1,h2,and_self,if_true],h3⟩
 ·rename_i d m n ag x i;split at h
  case h_2=>exact h.elim
  rename_i hi;obtain ⟨σ',h1,h2⟩:=Adl (h.x.h h.p.1 h.p.2);exact ⟨σ',by simp only [Cb,hi];exact h1,h2⟩
 ·rename_i n x v;split at h
  case h_2=>exact h.elim
  rename_i U σ1 ht;split at h
  case h_2=>exact h.elim
  rename_i r p c hl;split at h
  case h_2=>exact h.elim
  rename_i T hT;obtain ⟨u,hs,hk⟩:=Qh h;split at hk
  case h_2=>exact hk.elim
  rename_i hc;obtain ⟨nd',h1,h2⟩:=hk.h;obtain ⟨T',h3,h4⟩:=Fk h2;rw [A5] at h4;exact ⟨_,by simp only [Cb,Aya,ht,hl,hT,hs,hc,h1,h3,if_true],h4⟩
 ·rename_i d neg x;split at h
  ·rename_i o m xs e;split at h
   ·exact h.elim
   obtain ⟨h1,h2⟩:=h.h;rw [A5] at h2;refine ⟨_,?_,h2⟩
   match xs,h1 with
   | [],h1=>simp at h1
   | y::ys,_=>simp [Cb,A47,e,Atl]
  ·rename_i r p e;obtain ⟨T,u,hT,hs,hn,hk⟩:=H4 h;split at hk
   case h_2=>exact hk.elim
   rename_i o m xs;obtain ⟨h1,h2⟩:=hk.h;rw [A5] at h2;refine ⟨_,?_,h2⟩
   match xs,h1,hn with
   | [],h1,_=>simp at h1
   | y::ys,_,hn=>simp [Cb,A47,e,Atl,hn]
  exact Adl h
 exact Adl h
def Auu (o:AOp) (σ:St) (K:St->Prop):Prop:=match Bd4 o with
 | true=>Amm o σ λd a=>Bz (As d a σ) K
 | false=>A85 o σ K
theorem Xg {o:AOp} {σ:St} {K:St->Prop} (h:Auu o σ K) : ∃σ',Cb o σ=some σ'/\K σ':=by
 unfold Auu at h;split at h
 ·obtain ⟨d,a,h1,h2⟩:=Xo h;rw [A5] at h2;exact ⟨_,(Awk h1).1,h2⟩
 exact Ay3 h
structure CallQ (P:Program) (f d:Nat) (vs:List V) (ls:List (Nat×Nat×List Nat)) (rs:List Nat) (K:St->Prop) (σ:St):Prop where
 h:Ig σ ls rs=true/\Tri P f vs (Ev d ls rs K σ)
structure CallP (P:Program) (f d:Nat) (vs:List V) (rs:List Nat) (K:V->Prop):Prop where
 h : ∃v,Tri P f vs (λres _=>res=v/\Db rs v=true)/\K v
structure CloP (P:Program) (f d:Nat) (cs vs:List V) (rs:List Nat) (K:V->Prop):Prop where
 h : ∃v,Tri P f (vs++fzL cs) (λres _=>res=v/\Db rs v=true)/\K v
structure CloQ (P:Program) (f d:Nat) (cs vs:List V) (rs:List Nat) (K:St->Prop) (σ:St):Prop where
 h:Tri P f (vs++fzL cs) (Ev d [] rs K σ)
def A0n (σ:St) (a:A) (io:Bool) (k:Nat) (K:V->List (Nat×Nat×List Nat)->List Nat->Prop):Prop:=match a with
 | .val v=>K v.fz [] []
 | .ref r p=>Abz (look σ r) p λu=>match io&&u.node with
   | true=>K u [(k,r,p)] []
   | false=>K u.fz [] [r]
 | a=>match Ns σ a with
   | some v=>K v [] a.roots
   | none=>False
def Afh (σ:St):List (A×Bool)->Nat->(List V->List (Nat×Nat×List Nat)->List Nat->Prop)->Prop
 | [],_,K=>K [] [] []
 | (a,io)::rest,k,K=>A0n σ a io k λv ls' rs'=>Afh σ rest (k+1) λvs ls rs=>K (v::vs) (ls'++ls) (rs'++rs)
theorem A56 {σ:St} {a:A} {io:Bool} {k:Nat} {K:V->List (Nat×Nat×List Nat)->List Nat->Prop} (h:A0n σ a io k K) :
  (∃r p u,io=true/\P5 σ a=some (r,p,u)/\K u [(k,r,p)] [])\/((io=true->P5 σ a=none) /\ ∃v,Ns σ a=some v/\K v [] a.roots):=by
 cases a with
 | val v=>exact .inr ⟨λ_=>rfl,_,rfl,h⟩
 | ref r p=>
   obtain ⟨T,u,hT,hs,hn,hk⟩:=H4 h;split at hk
   ·rename_i hb;simp only [Bool.and_eq_true] at hb;exact .inl ⟨r,p,u,hb.1,by simp [P5,hn,hb.2],hk⟩
   ·rename_i hb;refine .inr ⟨λhi=> ?_,u.fz,by simp [Ns,hn],hk⟩;simp only [P5,hn];cases hu:u.node with
    | false=>rfl
    | true=>rw [hi,hu] at hb;cases hb
 | top=>simp [A0n,Ns] at h
 | addr r p c=>simp [A0n,Ns] at h
 | fad cs=>simp [A0n,Ns] at h
 | tie b f p q=>simp [A0n,Ns] at h
 | agg as=>
   simp only [A0n] at h;split at h
   ·exact .inr ⟨λ_=>rfl,_,by assumption,h⟩
   ·exact h.elim
 | clo f as=>
   simp only [A0n] at h;split at h
   ·exact .inr ⟨λ_=>rfl,_,by assumption,h⟩
   ·exact h.elim
theorem M7 {σ:St} : ∀ {as:List (A×Bool)} {k:Nat} {K:List V->List (Nat×Nat×List Nat)->List Nat->Prop},Afh σ as k K -> ∃vs ls rs,C1 σ as k=some (vs,ls,rs)/\K vs ls rs:=by
 intro as
 induction as with
 | nil=>intro k K h;exact ⟨[],[],[],rfl,h⟩
 | cons e rest ih=>
   intro k K h;obtain ⟨a,io⟩:=e;simp only [Afh] at h;rcases A56 h with ⟨r,p,u,h1,h2,h3⟩ | ⟨h1,v,h2,h3⟩
   ·obtain ⟨vs,ls,rs,h4,h5⟩:=ih h3;exact ⟨_,_,_,by simp [C1,h4,h1,h2],h5⟩
   ·obtain ⟨vs,ls,rs,h4,h5⟩:=ih h3;refine ⟨_,_,_,?_,h5⟩;simp only [C1,h4];have:(if io=true then P5 σ a else none)=none:=by split<;>simp_all
    simp [this,h2]
structure LendQ (P:Program) (f d n:Nat) (g:Option Nat) (bs:List A) (vs:List V) (ls:List (Nat×Nat×List Nat)) (rs:List Nat) (K:St->Prop) (σ:St):Prop where
 h:Ig σ ls rs=true/\Tri P f (Ava n bs.length g vs) (S4 n g (Ev d ls rs K σ))
structure CallT (P:Program) (f m j d:Nat) (vs:List V) (ls:List (Nat×Nat×List Nat)) (rs:List Nat) (K:St->Prop) (σ:St):Prop where
 h:Ig σ ls rs=true/\A3k P f m j vs (Ev d ls rs K σ)
def A5k (P:Program) (f d:Nat) (as:List (A×Bool)) (K:St->Prop) (σ:St):Prop:=match I6 as with
 | some (pre,g,bs,rest)=>Afh σ (pre++(bs.map (·,true)++rest)) 0 λvs ls rs=>LendQ P f d pre.length g bs vs ls rs K σ
 | none=>Afh σ as 0 λvs ls rs=>CallQ P f d vs ls rs K σ
structure CloV (P:Program) (d:Nat) (u:V) (vs:List V) (rs:List Nat) (K:St->Prop) (σ:St):Prop where
 h : ∃f cs,(u = .clo f cs\/u = .fclo f cs)/\Tri P f (vs++fzL cs) (Ev d [] rs K σ)
theorem CloV.c {P:Program} {f d:Nat} {cs vs:List V} {rs:List Nat} {K:St->Prop} {σ:St} (h:CloQ P f d cs vs rs K σ):CloV P d (.clo f cs) vs rs K σ:=⟨f,cs,.inl rfl,h.h⟩
theorem CloV.f {P:Program} {f d:Nat} {cs vs:List V} {rs:List Nat} {K:St->Prop} {σ:St} (h:CloQ P f d cs vs rs K σ):CloV P d (.fclo f cs) vs rs K σ:=⟨f,cs,.inr rfl,h.h⟩
structure CloN (P:Program) (d:Nat) (as:List (A×Bool)) (ms:List Bool) (u:V) (r:Nat) (p:List Nat) (K:St->Prop) (σ:St):Prop where
 h : ∃tv f cs,u = .clov tv f cs/\Ih P f d (as++Z4 ms (Iu r p 0 cs)) K σ
def opK (P:Program) (o:AOp) (σ:St) (K:St->Prop):Prop:=match o with
 | .call d f as=>A5k P f d (D8 σ as) K σ
 | .cally d x as ms=>match Ai σ x with
   | .val u=>Afh σ (D8 σ (as.map (·,false))) 0 λvs ls rs=>match ls with
     | []=>CloV P d u vs rs K σ
     | _=>False
   | .clo f cs=>A5k P f d (D8 σ (as.map (·,false))++Z4 ms cs) K σ
   | .ref r p=>Abz (look σ r) p λu=>CloN P d (D8 σ (as.map (·,false))) ms u r p K σ
   | .tie true f p q=>Afh σ (D8 σ (as.map (·,false))++Z4 ms (p ++ .val .dead::q)) 0 λvs ls rs=>CallT P f as.length p.length d vs ls rs K σ
   | _=>False
 | .slc d m (.t s) lo hi=>(match look σ s with
   | .val T=>(match T.hasOwn with
     | true=>Bz (Alf s σ) λσ'=>Auu (.slc d m (.t s) lo hi) σ' K
     | false=>Auu (.slc d m (.t s) lo hi) σ K)
   | _=>Auu (.slc d m (.t s) lo hi) σ K)
 | o=>Auu o σ K
theorem Amj {P:Program} {f d:Nat} {as:List (A×Bool)} {K:St->Prop} {σ:St} (h:A5k P f d as K σ):Ih P f d as K σ:=by
 unfold A5k at h;unfold Ih;split at h
 ·rename_i e;simp only [e];obtain ⟨vs,ls,rs,h1,h2⟩:=M7 h;rw [h1];exact h2.h
 rename_i e;simp only [e];obtain ⟨vs,ls,rs,h1,h2⟩:=M7 h;rw [h1];exact h2.h
theorem Alo {P:Program} {o:AOp} {σ:St} {K:St->Prop} (h:opK P o σ K):Aah P o K σ:=by
 unfold opK at h;unfold Aah;split at h
 ·exact Amj h
 ·split at h
  ·rename_i e;obtain ⟨vs,ls,rs,h1,h2⟩:=M7 h;split at h2
   case h_2=>exact h2.elim
   obtain ⟨f,cs,hu,ht⟩:=h2.h;rcases hu with rfl | rfl
   ·simp only [e,Auk,Acf];unfold Ih;rw [Afv];simp only;rw [Abj (λk=>Ag7 _ k) h1];exact ⟨rfl,ht⟩
   simp only [e,Auk,Acf];unfold Ih;rw [Afv];simp only;rw [Abj (λk=>Ag7 _ k) h1,Aej];exact ⟨rfl,ht⟩
  ·rename_i e;simp only [e,Auk,Acf];exact Amj h
  ·rename_i e;obtain ⟨T,u,hT,hs,hn,hk0⟩:=H4 h;obtain ⟨tv,f,cs,rfl,hk⟩:=hk0.h;simp only [e,Auk,hn,Acf];exact hk
  ·rename_i e;obtain ⟨vs,ls,rs,h1,h2⟩:=M7 h;simp only [e,Auk,Acf,A8n];unfold Uz;rw [h1];exact h2.h
  exact h.elim
 ·rename_i d m s lo hi;simp only [Aij];split at h
  ·rename_i T hT;simp only [hT];split at h
   ·rename_i ho;rw [A5] at h;obtain ⟨σ',e,hk⟩:=Xg h;simp only [ho];rw [e];exact hk
   rename_i ho;obtain ⟨σ',e,hk⟩:=Xg h;simp only [ho];rw [e];exact hk
  rename_i hne;obtain ⟨σ',e,hk⟩:=Xg h;split
  ·rename_i σ2 he;split at he
   ·rename_i T hT;exact absurd hT (hne T)
   rw [e] at he;cases he;exact hk
  rename_i he;split at he
  ·rename_i T hT;exact absurd hT (hne T)
  rw [e] at he;cases he
 rename_i h1 h2 h3;obtain ⟨σ',e,hk⟩:=Xg h;have hp:Aij o σ=σ:=by
  unfold Aij;split
  ·exact absurd rfl (h3 _ _ _ _ _)
  ·rfl
 split
 ·exact absurd rfl (h1 _ _ _)
 ·exact absurd rfl (h2 _ _ _ _)
 rw [hp,e];exact hk
def A3c (P:Program) (o:AOp) (σ:St) (K:St->Prop):Prop:=match o with
 | .call d f as=>(match Avm as with
   | []=>opK P (.call d f as) σ K
   | _::_=>Bz (Ag0 as σ) λτ=>opK P (.call d f as) τ K)
 | o=>opK P o σ K
theorem Aq3 {P:Program} {o:AOp} {σ:St} {K:St->Prop} (h:A3c P o σ K):T8 P o K σ:=by
 unfold A3c at h;unfold T8;split at h
 ·simp only [Adg];split at h
  ·rename_i e;simp only [e];exact Alo h
  rename_i e;rw [A5] at h;simp only [e];exact Alo h
 rename_i h1;have hp:Adg o σ=σ:=by
  unfold Adg;split
  ·exact absurd rfl (h1 _ _ _)
  ·rfl
 rw [hp];exact Alo h
def Wb (P:Program):List G->(St->Prop)->St->Prop
 | [],K,σ=>K σ
 | ⟨none,o⟩::r,K,σ=>A3c P o σ (Wb P r K)
 | ⟨some (s,true),o⟩::r,K,σ=>match look σ s with
   | .val (.bool b)=>Br b (Bz (Ox s true σ) λτ=>A3c P o τ (Wb P r K)) (Bz (Ad4 o (Ox s false σ)) (Wb P r K))
   | .val (.tup [])=>Bz (Ad4 o σ) (Wb P r K)
   | _=>False
 | ⟨some (s,false),o⟩::r,K,σ=>match look σ s with
   | .val (.bool b)=>Br b (Bz (Ad4 o (Ox s true σ)) (Wb P r K)) (Bz (Ox s false σ) λτ=>A3c P o τ (Wb P r K))
   | .val (.tup [])=>Bz (Ad4 o σ) (Wb P r K)
   | _=>False
theorem Xk {P:Program} : ∀ {gs:List G} {K:St->Prop} {σ:St},Wb P gs K σ->F7 P gs K σ:=by
 intro gs
 induction gs with
 | nil=>intro K σ h;exact h
 | cons x r ih=>
   intro K σ h;obtain ⟨g,o⟩:=x;have run : ∀ {τ},A3c P o τ (Wb P r K)->T8 P o (F7 P r K) τ:=λh=>Nl (λ_=>ih) (Aq3 h)
   match g,h with
   | none,h=>exact run h
   | some (s,true),h=>
     simp only [Wb] at h;simp only [F7];split at h
     ·rename_i b hb;simp only [hb];refine ⟨λe=> ?_,λe=> ?_⟩
      ·subst e;have:=h.t rfl;rw [A5,Uv hb] at this;exact run this
      ·have e':b=false:=by simpa using e
       subst e';have:=h.f rfl;rw [A5,Uv hb] at this;exact ih this
     ·rename_i hb;simp only [hb];rw [A5] at h;exact ih h
     ·exact h.elim
   | some (s,false),h=>
     simp only [Wb] at h;simp only [F7];split at h
     ·rename_i b hb;simp only [hb];refine ⟨λe=> ?_,λe=> ?_⟩
      ·subst e;have:=h.f rfl;rw [A5,Uv hb] at this;exact run this
      ·have e':b=true:=by simpa using e
       subst e';have:=h.t rfl;rw [A5,Uv hb] at this;exact ih this
     ·rename_i hb;simp only [hb];rw [A5] at h;exact ih h
     ·exact h.elim
def yNK (σ:St) (m s:Nat) (y:A) (K:List V->Prop):Prop:=match y with
 | .val (.sl _ m' ys)=>(match Nat.beq m' m with
   | true=>K ys
   | false=>False)
 | .val (.nilsl _)=>K []
 | .ref r p=>(match Nat.beq r s with
   | true=>False
   | false=>Abz (look σ r) p λu=>match u with
     | .sl o m' ys=>(match o with
       | true=>(match Nat.beq m' m with
         | true=>NoOwn ys (K ys) False
         | false=>False)
       | false=>False)
     | _=>False)
 | _=>False
theorem A8k {σ:St} {m s:Nat} {y:A} {K:List V->Prop} (h:yNK σ m s y K) : ∃ys,yN σ m s y=some ys/\K ys:=by
 unfold yNK at h;split at h
 ·split at h
  ·rename_i hm;exact ⟨_,by simp [yN,Nat.eq_of_beq_eq_true hm],h⟩
  exact h.elim
 ·exact ⟨_,by simp [yN],h⟩
 ·split at h
  ·exact h.elim
  rename_i hrs;obtain ⟨T,u,hT,hs,hn,hk⟩:=H4 h;split at hk
  case h_2=>exact hk.elim
  split at hk
  case h_2=>exact hk.elim
  split at hk
  case h_2=>exact hk.elim
  rename_i hm;have hm':=Nat.eq_of_beq_eq_true hm;have hne : ∀ {r:Nat},Nat.beq r s=false->r≠s:=by intro r h1 h2;subst h2;simp at h1
  rcases hk.h with ⟨h1,h2⟩ | ⟨_,h2⟩
  ·exact ⟨_,by simp [yN,hn,hm',h1,hne hrs],h2⟩
  exact h2.elim
 exact h.elim
def Apx:List Nat->(List Nat->Prop)->Prop
 | [],K=>K []
 | n::r,K=>Apx r λs=>K (n::s)
theorem Aus : ∀(l:List Nat) (K:List Nat->Prop),Apx l K=K l:=by
 intro l
 induction l with
 | nil=>intro K;rfl
 | cons n r ih=>intro K;simp only [Apx];rw [ih]
def A30 (P:Program) (o:AOp) (σ:St) (K:Nat->A->List Nat->Prop):Prop:=match o with
 | .call d f as=>match as.all (λe => !e.2) with
   | true=>Afh σ (D8 σ as) 0 λvs ls rs=>match ls with
     | []=>CallP P f d vs rs λv=>K d (.val v) []
     | _=>False
   | false=>False
 | .cally d x as _=>(match Ai σ x with
   | .val (.fclo f cs)=>Afh σ (D8 σ (as.map (·,false))) 0 λvs ls rs=>match ls with
     | []=>CloP P f d cs vs rs λv=>K d (.val v) []
     | _=>False
   | _=>False)
 | .app d m (.t s) y=>(match look σ s with
   | .val (.sl o m' xs)=>(match o with
     | true=>(match Nat.beq m' m with
       | true=>yNK σ m s (Ai σ y) λys=>AppQ d xs ys λl=>K d (.val (.sl true m l)) [s]
       | false=>False)
     | false=>False)
   | _=>False)
 | .bsl d m ps=>(match Th σ ps with
   | some (Us,ks)=>BslQ d m Us λl=>Apx ks λks=>K d (.val (.sl true m l)) ks
   | none=>False)
 | .asg d (.t s)=>(match look σ s with
   | .val v=>(match v.hasOwn with
     | true=>S6 (.val v) λa=>K d a [s]
     | false=>S6 (.val v.up) λa=>K d a [])
   | _=>False)
 | o=>Amm o σ λd a=>K d a []
theorem Axz {P:Program} {o:AOp} {σ:St} {K:Nat->A->List Nat->Prop} (h:A30 P o σ K):Ud P o σ K:=by
 unfold A30 at h;unfold Ud;split at h
 ·split at h
  case h_2=>exact h.elim
  rename_i hio;refine ⟨hio,?_⟩;obtain ⟨vs,ls,rs,h1,h2⟩:=M7 h;split at h2
  case h_2=>exact h2.elim
  rw [h1];exact h2.h
 ·split at h
  case h_2=>exact h.elim
  rename_i hx;obtain ⟨vs,ls,rs,h1,h2⟩:=M7 h;split at h2
  case h_2=>exact h2.elim
  simp only [hx,h1];exact h2.h
 ·split at h
  case h_2=>exact h.elim
  rename_i hL;split at h
  case h_2=>exact h.elim
  split at h
  case h_2=>exact h.elim
  rename_i hm;obtain ⟨ys,h1,h2⟩:=A8k h;simp only [hL,h1];obtain ⟨k1,k2,k3⟩:=h2.h;exact ⟨⟨trivial,Nat.eq_of_beq_eq_true hm,k1,k2⟩,k3⟩
 ·split at h
  case h_2=>exact h.elim
  rename_i ht;obtain ⟨k1,k2⟩:=h.h;rw [Aus] at k2;simp only [ht];exact ⟨k1,k2⟩
 ·split at h
  case h_2=>exact h.elim
  rename_i hL;split at h
  ·rename_i hv;rw [Q5] at h;simp only [hL,hv];exact h
  rename_i hv;rw [Q5] at h;simp only [hL,hv];exact h
 rename_i h1 h0 h2 h3 h4;obtain ⟨d,a,e,hk⟩:=Xo h;split
 ·exact absurd rfl (h1 _ _ _)
 ·exact absurd rfl (h0 _ _ _ _)
 ·exact absurd rfl (h2 _ _ _ _)
 ·exact absurd rfl (h3 _ _ _)
 ·exact absurd rfl (h4 _ _)
 rw [e];exact hk
def hk (hide kl:List Nat):List Nat:=match kl with
 | []=>hide
 | k::r=>hide++(k::r)
theorem A1f (hide kl:List Nat):hk hide kl=hide++kl:=by
 cases kl with
 | nil=>simp [hk]
 | cons k r=>rfl
def Bak (acc:St) (kl:List Nat):Bool:=match kl with
 | []=>true
 | k::r=>Rg acc (k::r)
theorem Aur {acc:St} {kl:List Nat} (h:Bak acc kl=true):Rg acc kl=true:=by
 cases kl with
 | nil=>unfold Rg;simp
 | cons k r=>exact h
def A4x (kl:List Nat) (acc:St):St:=match kl with
 | []=>acc
 | k::r=>Ez (k::r) acc
theorem Azd (kl:List Nat) (acc:St):A4x kl acc=Ez kl acc:=by
 cases kl with
 | nil=>
   simp only [A4x]
   induction acc with
   | nil=>rfl
   | cons e r ih=>obtain ⟨d,a⟩:=e;simp [Ez,<-ih]
 | cons k r=>rfl
structure LendP (P:Program) (f d:Nat) (vs:List V) (rs:List Nat) (k:Nat) (p:List Nat) (T:V) (K:V->V->Prop):Prop where
 h : ∃v u T',Tri P f vs (λres outs=>res=v/\outs[k]? = some u)/\(Db rs v=true/\Db rs u=true/\u.node=true/\upd p T u=some T')/\K v T'
def Axn (P:Program) (o:AOp) (s:Nat) (σ:St) (K:Nat->V->Nat×V×Nat->Prop):Prop:=match o with
 | .call d f as=>(match I6 (D8 σ as) with
   | some _=>False
   | none=>Afh σ (D8 σ as) 0 λvs ls rs=>match ls with
     | [(k,r,p)]=>(match Nat.beq r s && !rs.contains r with
       | true=>(match look σ r with
         | .val T=>LendP P f d vs rs k p T λv T'=>K d v (r,T',p.length+1)
         | _=>False)
       | false=>False)
     | _=>False)
 | _=>False
theorem As2 {P:Program} {o:AOp} {s:Nat} {σ:St} {K:Nat->V->Nat×V×Nat->Prop} (h:Axn P o s σ K):Ady P o s σ K:=by
 unfold Axn at h;unfold Ady;split at h
 case h_2=>exact h.elim
 split at h
 ·exact h.elim
 rename_i hgv;obtain ⟨vs,ls,rs,h1,h2⟩:=M7 h;split at h2
 case h_2=>exact h2.elim
 rename_i k r p;split at h2
 case h_2=>exact h2.elim
 rename_i hb;simp only [Bool.and_eq_true,Bool.not_eq_true'] at hb;split at h2
 case h_2=>exact h2.elim
 rename_i T hT;simp only [hgv,h1,hT];exact ⟨⟨Nat.eq_of_beq_eq_true hb.1,hb.2⟩,h2.h⟩
def Aq2 (ls hide:List Nat) (cs:List (Nat×V×Nat)) (σ:St):St:=match ls with
 | []=>σ
 | l::q=>Qa (l::q) hide cs σ
theorem A57 (σ:St):Afk [] σ=σ:=by
 induction σ with
 | nil=>rfl
 | cons e r ih=> obtain ⟨k,a⟩:=e;simp [Afk,ih]
theorem A8y {ls hide:List Nat} {cs:List (Nat×V×Nat)} {σ:St} (hc : ∀c∈cs,ls.contains c.1=true):Aq2 ls hide cs σ=Qa ls hide cs σ:=by
 cases ls with
 | nil=>
   have:cs=[]:=by
    cases cs with
    | nil=>rfl
    | cons c q=>have:=hc c (by simp);simp at this
   subst this;simp only [Aq2,Qa,List.filter_nil,Hd];have:(List.filter (λx=>([]:List Nat).contains x) hide)=[]:=by simp
   rw [this,A57]
 | cons l q=>rfl
abbrev A2u:=St->List Nat->List (Nat×V×Nat)->(St->Prop)->Prop
def A4v (σ0 acc:St) (o:AOp) (hide kl:List Nat) (cs:List (Nat×V×Nat)) (K:St->Prop) (ih:A2u) (acc1:St) (d:Nat) (a:A) (ks:List Nat):Prop:=match Xr d acc σ0 with
 | true=>(match ks with
   | []=>Bz (acc1++[(d,a.mapR (Aq d 0))]) λacc'=>ih acc' kl cs K
   | k::q=>(match Ahh (k::q) o (Ez (hk hide kl) acc) with
     | true=>Bz (acc1++[(d,a.mapR (Aq d 0))]) λacc'=>Apx (kl++(k::q)) λkl'=>ih acc' kl' cs K
     | false=>False))
 | false=>False
def Aet (σ0 acc:St) (o:AOp) (kl:List Nat) (cs:List (Nat×V×Nat)) (K:St->Prop) (ih:A2u) (acc1:St):Prop:=match o.dst with
 | some d=>(match Xr d acc σ0 with
   | true=>Bz (acc1++[(d,.val (.tup []))]) λacc'=>ih acc' kl cs K
   | false=>False)
 | none=>False
def Ap1 (P:Program) (ls:List Nat) (σ0 acc:St) (o:AOp) (hide kl:List Nat) (cs:List (Nat×V×Nat)) (K:St->Prop) (ih:A2u) (acc1:St):Prop:=
 Bz (Ez (hk hide kl) acc1++Aq2 ls hide cs σ0) λσh=>A30 P o σh (A4v σ0 acc o hide kl cs K ih acc1)
def A4m (P:Program) (ls:List Nat) (σ0 acc:St) (o:AOp) (s:Nat) (hide kl:List Nat) (cs:List (Nat×V×Nat)) (K:St->Prop) (ih:A2u):Prop:=
 Bz (Ez (hk hide kl) acc++Aq2 ls hide.tail cs σ0) λσh=>Axn P o s σh λd v c=>match Xr d acc σ0&&ls.contains s&&A2i (look σ0 s)&&Nat.beq c.1 s with
  | true=>Bz (acc++[(d,.val v)]) λacc'=>ih acc' kl (cs++[c]) K
  | false=>False
def Akg (P:Program) (ls:List Nat) (σ0:St) (x:G×List Nat) (ih:A2u) (acc:St) (kl:List Nat) (cs:List (Nat×V×Nat)) (K:St->Prop):Prop:=match x with
 | (⟨none,o⟩,hide)=>(match O5 o hide with
   | []=>Ap1 P ls σ0 acc o hide kl cs K ih acc
   | s::_=>A4m P ls σ0 acc o s hide kl cs K ih)
 | (⟨some (s,true),o⟩,hide)=>(match (hk hide kl).contains s || !(O5 o hide).isEmpty with
   | true=>False
   | false=>(match look (Ez (hk hide kl) acc++Aq2 ls hide cs σ0) s with
     | .val (.bool b)=>Br b (Ap1 P ls σ0 acc o hide kl cs K ih (Ox s true acc)) (Aet σ0 acc o kl cs K ih (Ox s false acc))
     | .val (.tup [])=>Aet σ0 acc o kl cs K ih acc
     | _=>False))
 | (⟨some (s,false),o⟩,hide)=>(match (hk hide kl).contains s || !(O5 o hide).isEmpty with
   | true=>False
   | false=>(match look (Ez (hk hide kl) acc++Aq2 ls hide cs σ0) s with
     | .val (.bool b)=>Br b (Aet σ0 acc o kl cs K ih (Ox s true acc)) (Ap1 P ls σ0 acc o hide kl cs K ih (Ox s false acc))
     | .val (.tup [])=>Aet σ0 acc o kl cs K ih acc
     | _=>False))
def A2w (σ0 acc:St) (kl:List Nat) (cs:List (Nat×V×Nat)) (K:St->Prop):Prop:=match Bak acc kl with
 | true=>(match cs with
   | []=>Bz (A4x kl acc++σ0) K
   | c::q=>(match Amn acc (c::q) with
     | true=>Bz (A4x kl acc++Hd (c::q) σ0) K
     | false=>False))
 | false=>False
def Avh (P:Program) (ls:List Nat) (σ0:St) (l:List (G×List Nat)):A2u:=
 List.rec (motive:=λ_=>A2u) (A2w σ0) (λx _ ih=>Akg P ls σ0 x ih) l
theorem Aa4 {hide:List Nat} {acc σ0:St} {s:Nat} {b:Bool} (h:look (Ez hide acc++σ0) s = .val (.bool b)) (hh:hide.contains s=false):Ox s b acc=acc:=by
 rw [Gk] at h;split at h
 ·rw [Ag5 _ _ _ hh] at h;exact Uv h
 rename_i hk;rw [Ael] at hk;have hk':Bb s acc=false:=by rw [hh] at hk;simpa using hk
 clear h hk
 induction acc with
 | nil=>rfl
 | cons e r ih=>
   obtain ⟨k,a⟩:=e;simp only [Bb,Bool.or_eq_false_iff,beq_eq_false_iff_ne] at hk';simp only [Ox];rw [show Nat.beq k s=false by
    cases hb:Nat.beq k s with
    | false=>rfl
    | true=>exact absurd (Nat.eq_of_beq_eq_true hb) hk'.1]
   simp only [ih hk'.2]
theorem A2m {P:Program} {o:AOp} {σ:St} {c c':Nat->A->List Nat->Prop} (h : ∀d a ks,c d a ks->c' d a ks) (ha:Ud P o σ c):Ud P o σ c':=Ag1 h ha
theorem Amf {P:Program} {ls:List Nat} {σ0:St} : ∀ {l:List (G×List Nat)} {acc:St} {kl:List Nat} {cs:List (Nat×V×Nat)} {KS:List (List Nat)} {CS:List (List (Nat×V×Nat))} {K:St->Prop},KS.flatten=kl->CS.flatten=cs->(∀c∈cs,ls.contains c.1=true)->Avh P ls σ0 l acc kl cs K->G8 P ls σ0 l acc KS CS K:=by
 intro l
 induction l with
 | nil=>
   intro acc kl cs KS CS K hkl hcs hin h;subst hkl;change A2w σ0 acc KS.flatten cs K at h;simp only [A2w] at h;split at h
   ·rename_i hr;split at h
    ·rw [A5,Azd] at h;refine ⟨⟨Aur hr,?_⟩,?_⟩
     ·rw [hcs];unfold Amn;simp
     ·rw [hcs];exact h
    ·split at h
     ·rename_i hr2;rw [A5,Azd] at h;rw [<-hcs] at h hr2;exact ⟨⟨Aur hr,hr2⟩,h⟩
     ·exact h.elim
   ·exact h.elim
 | cons x r ih=>
   intro acc kl cs KS CS K hkl hcs hin h;subst hkl;obtain ⟨⟨g,o⟩,hide⟩:=x;change Akg P ls σ0 (⟨g,o⟩,hide) (Avh P ls σ0 r) acc KS.flatten cs K at h;have hbk : ∀hide,Aq2 ls hide cs σ0=Qa ls hide CS.flatten σ0:=λhide=>by rw [A8y hin,hcs]
   have run:Ap1 P ls σ0 acc o hide KS.flatten cs K (Avh P ls σ0 r) acc->Ud P o (Ez (hide++KS.flatten) acc++Qa ls hide CS.flatten σ0) λd a ks=>(Xr d acc σ0=true/\Ahh ks o (Ez (hide++KS.flatten) acc)=true)/\G8 P ls σ0 r (acc++[(d,a.mapR (Aq d 0))]) (KS++[ks]) (CS++[[]]) K:=by
    intro h;unfold Ap1 at h;rw [A5,A1f,hbk] at h;refine A2m ?_ (Axz h);intro d a ks hk;unfold A4v at hk;rw [A1f] at hk;split at hk
    ·rename_i hf;split at hk
     ·rw [A5] at hk;exact ⟨⟨hf,rfl⟩,ih (by simp) (by simp [hcs]) hin hk⟩
     ·split at hk
      ·rename_i hkk;rw [A5,Aus] at hk;exact ⟨⟨hf,hkk⟩,ih (by simp) (by simp [hcs]) hin hk⟩
      ·exact hk.elim
    ·exact hk.elim
   have skip:Aet σ0 acc o KS.flatten cs K (Avh P ls σ0 r) acc->(match o.dst with
      | some d=>Xr d acc σ0=true/\G8 P ls σ0 r (acc++[(d,.val (.tup []))]) (KS++[[]]) (CS++[[]]) K
      | none=>False):=by
    intro h;unfold Aet at h;cases hd:o.dst with
    | none=>rw [hd] at h;exact h.elim
    | some d=>
      rw [hd] at h;cases hf:Xr d acc σ0 with
      | false=>simp only [hf] at h
      | true=> simp only [hf] at h;rw [A5] at h;exact ⟨hf,ih (by simp) (by simp [hcs]) hin h⟩
   match g,h with
   | none,h=>
     simp only [Akg] at h;simp only [G8];cases hlo:O5 o hide with
     | nil=>rw [hlo] at h;exact run h
     | cons s q=>
       rw [hlo] at h;simp only at h ⊢;unfold A4m at h;rw [A5,A1f,hbk] at h;refine Amk ?_ (As2 h);intro d v c hc;split at hc
       case h_2=>exact hc.elim
       rename_i hcond;simp only [Bool.and_eq_true] at hcond;rw [A5] at hc;refine ⟨⟨hcond.1.1.1,hcond.1.1.2,hcond.1.2⟩,ih (by simp) (by simp [hcs]) ?_ hc⟩;intro c' hc';rcases List.mem_append.1 hc' with h1 | h1
       ·exact hin c' h1
       ·simp at h1;subst h1;rw [Nat.eq_of_beq_eq_true hcond.2];exact hcond.1.1.2
   | some (s,true),h=>
     simp only [Akg,A1f,hbk] at h;simp only [G8];split at h
     ·exact h.elim
     rename_i hh;simp only [Bool.or_eq_false_iff,Bool.not_eq_false',List.isEmpty_iff] at hh;refine ⟨hh.2,?_⟩;replace hh:=hh.1;split at h
     ·rename_i b hb;simp only [hb];refine ⟨λe=> ?_,λe=> ?_⟩
      ·subst e;have:=h.t rfl;rw [Aa4 hb hh] at this;exact run this
      ·have e':b=false:=by simpa using e
       subst e';have:=h.f rfl;rw [Aa4 hb hh] at this;exact skip this
     ·rename_i hb;simp only [hb];exact skip h
     ·exact h.elim
   | some (s,false),h=>
     simp only [Akg,A1f,hbk] at h;simp only [G8];split at h
     ·exact h.elim
     rename_i hh;simp only [Bool.or_eq_false_iff,Bool.not_eq_false',List.isEmpty_iff] at hh;refine ⟨hh.2,?_⟩;replace hh:=hh.1;split at h
     ·rename_i b hb;simp only [hb];refine ⟨λe=> ?_,λe=> ?_⟩
      ·subst e;have:=h.f rfl;rw [Aa4 hb hh] at this;exact run this
      ·have e':b=true:=by simpa using e
       subst e';have:=h.t rfl;rw [Aa4 hb hh] at this;exact skip this
     ·rename_i hb;simp only [hb];exact skip h
     ·exact h.elim
structure SameQ (x y:A) (K:Prop):Prop where
 h:x=y/\K
def Aw6 (A:List (Nat×AOp)) (K:St->Prop):St->Prop:=
 List.rec (motive:=λ_=>St->Prop) K (λe _ ih σ=>Amm e.2 σ λd a=>match Aff a with
  | true=>Bz (As d a σ) ih
  | false=>False) A
def Ap4 (xs:List Nat) (σ:St) (K:Prop) (A:List (Nat×AOp)):Prop:=
 List.rec (motive:=λ_=>Prop) K (λe _ ih=>match xs.contains e.1 with
  | true=>Amm e.2 σ λd a=>match Aze a d σ with
    | true=>SameQ (look σ d) a ih
    | false=>False
  | false=>ih) A
def Aex (P:Program) (o:AOp) (ds:List Nat) (σ:St) (K:St->Prop):Prop:=match ds with
 | []=>A3c P o σ K
 | s::q=>(match o with
   | .app d m x y=>yK σ m (Ai σ y) λys σ1=>Alk σ1 (Ai σ1 x) λv σ2=>match v with
     | .sl o m' xs=>(match o with
       | true=>(match Nat.beq m' m with
         | true=>AppQ d xs ys λl=>Bz (K9 (s::q) (As d (.val (.sl true m l)) σ2)) K
         | false=>False)
       | false=>False)
     | _=>False
   | .slt d m x hi=>(match Aw1 (Ai σ hi) with
     | some h=>Alk σ (Ai σ x) λv σ2=>match v with
       | .sl o m' xs=>(match o with
         | true=>(match Nat.beq m' m with
           | true=>SlcQ xs 0 h λys=>Bz (K9 (s::q) (As d (.val (.sl true m ys)) σ2)) K
           | false=>False)
         | false=>False)
       | _=>False
     | none=>False)
   | _=>False)
theorem A52 (σ:St):K9 [] σ=σ:=by
 have key : ∀a:A,a.mapR (Ap9 [])=a:=by
  intro a;have e:Ap9 []=λr _=>some r:=by funext r p;simp [Ap9]
  rw [e];exact A5g a
 induction σ with
 | nil=>rfl
 | cons e r ih=>obtain ⟨k,a⟩:=e;simp [K9,ih,key]
theorem Afc {P:Program} {o:AOp} {ds:List Nat} {σ:St} {K:St->Prop} (h:Aex P o ds σ K):T8 P o (λσ'=>K (K9 ds σ')) σ:=by
 unfold Aex at h;split at h
 ·refine Nl (λσ' hk=> ?_) (Aq3 h);rw [A52];exact hk
 split at h
 case h_3=>exact h.elim
 ·obtain ⟨ys,σ1,hy,hk⟩:=A4y h;obtain ⟨v,σ2,hX,hk⟩:=Xw hk;split at hk
  case h_2=>exact hk.elim
  split at hk
  case h_2=>exact hk.elim
  split at hk
  case h_2=>exact hk.elim
  rename_i hm;have hm':=Nat.eq_of_beq_eq_true hm;obtain ⟨h1,h2,h3⟩:=hk.h;rw [A5] at h3;simp only [T8,Adg,Aah,Aij,Cb,A6i,hy,hX,hm',h1,h2];simpa using h3
 split at h
 case h_2=>exact h.elim
 rename_i hh hn;obtain ⟨v,σ2,hX,hk⟩:=Xw h;split at hk
 case h_2=>exact hk.elim
 split at hk
 case h_2=>exact hk.elim
 split at hk
 case h_2=>exact hk.elim
 rename_i hm;have hm':=Nat.eq_of_beq_eq_true hm;obtain ⟨_,h1,h2,h3⟩:=hk.h;rw [A5] at h3;simp only [T8,Adg,Aah,Aij,Cb,A95,hn,hX,hm',h1,h2,and_self,if_true];simpa using h3
structure Two (X Y:Prop):Prop where
 h:X/\Y
def Asd (P:Program) (A:List (Nat×AOp)) (K:St->Prop) (pl:LPlan):Bool->St->Prop:=
 LPlan.rec (motive:=λ_=>Bool->St->Prop) (λb σ=>match b with
  | true=>K σ
  | false=>True) (λ_ x xs ds _ ot ihn iho _ σ=>match ot with
    | .nil=>Ap4 xs σ (Aex P x ds σ (ihn true)) A
    | .alt .. => Two (Ap4 xs σ (Aex P x ds σ (ihn true)) A) (iho false σ)) pl
theorem As7 : ∀ {A:List (Nat×AOp)} {K:St->Prop} {σ},Aw6 A K σ->Mq A K σ:=by
 intro A
 induction A with
 | nil=>intro K σ h;exact h
 | cons e r ih=>
   intro K σ h;obtain ⟨i,x⟩:=e;have h':Amm x σ λd a=>match Aff a with
    | true=>Bz (As d a σ) (Aw6 r K)
    | false=>False:=h
   obtain ⟨d,a,h1,h2⟩:=Xo h';simp only [Mq,h1];split at h2
   ·rename_i hu;rw [A5] at h2;exact ⟨hu,ih h2⟩
   ·exact h2.elim
theorem Al7 {xs:List Nat} {σ:St} {K:Prop} : ∀ {A:List (Nat×AOp)},Ap4 xs σ K A->A32 A xs σ/\K:=by
 intro A
 induction A with
 | nil=>intro h;exact ⟨(λe he=>by cases he),h⟩
 | cons e r ih=>
   intro h;change (match xs.contains e.1 with
    | true=>Amm e.2 σ λd a=>match Aze a d σ with
      | true=>SameQ (look σ d) a (Ap4 xs σ K r)
      | false=>False
    | false=>Ap4 xs σ K r) at h
   split at h
   ·obtain ⟨d,a,h1,h2⟩:=Xo h;split at h2
    ·rename_i hu;obtain ⟨h3,h4⟩:=h2.h;obtain ⟨h5,h6⟩:=ih h4;refine ⟨λf hf hx=> ?_,h6⟩;rcases List.mem_cons.1 hf with rfl | hf
     ·exact ⟨d,a,h1,h3,hu⟩
     ·exact h5 f hf hx
    ·exact h2.elim
   ·rename_i hx;obtain ⟨h5,h6⟩:=ih h;refine ⟨λf hf hx2=> ?_,h6⟩;rcases List.mem_cons.1 hf with rfl | hf
    ·rw [hx] at hx2;cases hx2
    ·exact h5 f hf hx2
theorem Axi {P:Program} {A:List (Nat×AOp)} {K:St->Prop} : ∀ {pl:LPlan} {b:Bool} {σ},Asd P A K pl b σ->Rh P A K pl b σ:=by
 intro pl
 induction pl with
 | nil=>intro b σ h hb;subst hb;exact h
 | alt i x xs ds nx ot ih1 ih2=>
   intro b σ h;cases ot with
   | nil=> change Ap4 xs σ (Aex P x ds σ (Asd P A K nx true)) A at h;obtain ⟨h1,h2⟩:=Al7 h;exact ⟨⟨h1,Nl (λ_=>ih1) (Afc h2)⟩,λhb=>by cases hb⟩
   | alt j y ys es ny oy=> change Two (Ap4 xs σ (Aex P x ds σ (Asd P A K nx true)) A) (Asd P A K (.alt j y ys es ny oy) false σ) at h;obtain ⟨h1,h2⟩:=Al7 h.h.1;exact ⟨⟨h1,Nl (λ_=>ih1) (Afc h2)⟩,ih2 h.h.2⟩
structure TokE (u:V) (tv:Value) (K:V->Prop):Prop where
 h : ∃f cs,u = .clov tv f cs/\K u
def Alp:List Nat->(St->Prop)->St->Prop
 | [],K,σ=>K σ
 | e::r,K,σ=>match look σ (e%100000) with
   | .val (.raw tv)=>(match look σ ((e/100000-1000)/100) with
     | .val T=>Amb [e/100000%100] T λu=>TokE u tv λu=>M3 [e/100000%100] T .dead λT'=>Bz (As (e%100000) (.val u) (As (e%100000) .top (turnP ((e/100000-1000)/100) T' [e/100000%100] σ))) (Alp r K)
     | _=>Alp r K σ)
   | .val T=>FrzQ T (e/100000) λT'=>Bz (As (e%100000) (.val T') (As (e%100000) .top σ)) (Alp r K)
   | .ref q []=>(match look σ q with
     | .val T=>(match Nat.blt q 100000 with
       | true=>FrzQ T 0 λT'=>Bz (As (e%100000) (.val T') (As (e%100000) .top (As q (.val T') (As q .top σ)))) (Alp r K)
       | false=>Alp r K σ)
     | _=>Alp r K σ)
   | .ref q (c::p)=>(match Nat.beq (e/100000) 900 with
     | true=>(match look σ q with
       | .val T=>Amb (c::p) T λu=>M3 (c::p) T .dead λT'=>Bz (unP (e%100000) q (c::p) u T' σ) (Alp r K)
       | _=>Alp r K σ)
     | false=>Alp r K σ)
   | _=>Alp r K σ
theorem A3i : ∀ {ss:List Nat} {K:St->Prop} {σ:St},Alp ss K σ->K (Baf ss σ):=by
 intro ss
 induction ss with
 | nil=>intro K σ h;exact h
 | cons e r ih=>
   intro K σ h;simp only [Alp] at h;simp only [Baf];split at h
   ·rename_i tv hT;split at h
    ·rename_i T hq;obtain ⟨u,hu,h1⟩:=Qh h;obtain ⟨f,cs,rfl,h2⟩:=h1.h;obtain ⟨T',hT',h3⟩:=Fk h2;rw [A5] at h3;have e2:Yf e σ=As (e%100000) (.val (.clov tv f cs)) (As (e%100000) .top (turnP ((e/100000-1000)/100) T' [e/100000%100] σ)):=by
      simp only [Yf,hT,Bac,hq,hu];split
      ·simp only [hT']
      ·rename_i hne _;exact absurd rfl hne
     rw [e2];exact ih h3
    ·rename_i hne;have e2:Yf e σ=σ:=by
      simp only [Yf,hT,Bac]
     rw [e2];exact ih h
   ·rename_i T hraw hT;obtain ⟨T',h1,h2⟩:=h.h;subst h1;rw [A5] at h2;have e2:Yf e σ=Alf e σ:=by
     unfold Yf;split
     ·rename_i tv hT2;rw [hT] at hT2;cases hT2;exact (hraw tv rfl).elim
     ·rename_i hT2;rw [hT] at hT2;cases hT2
     ·rename_i hT2;rw [hT] at hT2;cases hT2
     ·rfl
    rw [e2];simp only [Alf,hT];exact ih h2
   ·rename_i q hT;split at h
    ·rename_i T hq;split at h
     ·rename_i hb;obtain ⟨T',h1,h2⟩:=h.h;rw [Av] at h1;subst h1;rw [A5] at h2;simp only [Yf,hT,hq,hb];exact ih h2
     ·rename_i hb;simp only [Yf,hT,hq,hb];exact ih h
    ·rename_i hne;have e2:Yf e σ=σ:=by
      simp only [Yf,hT]
     rw [e2];exact ih h
   ·rename_i q c p hT;split at h
    ·rename_i h9;split at h
     ·rename_i T hq;obtain ⟨u,hu,h1⟩:=Qh h;obtain ⟨T',hT',h2⟩:=Fk h1;rw [A5] at h2;have e2:Yf e σ=unP (e%100000) q (c::p) u T' σ:=by
       simp only [Yf,hT,h9,A9j,hq,hu,hT']
      rw [e2];exact ih h2
     ·rename_i hne;have e2:Yf e σ=σ:=by
       simp only [Yf,hT,h9,A9j]
      rw [e2];exact ih h
    ·rename_i h9;have e2:Yf e σ=σ:=by
      simp only [Yf,hT,h9]
     rw [e2];exact ih h
   ·rename_i hne hne2 hne3;have e2:Yf e σ=σ:=by
     unfold Yf;split
     ·rename_i tv hV;exact absurd hV (hne _)
     ·rename_i q c p hq;exact absurd hq (hne3 q c p)
     ·rename_i q hq;exact absurd hq (hne2 q)
     ·unfold Alf;split
      ·rename_i V hV;exact absurd hV (hne V)
      ·rfl
    rw [e2];exact ih h
structure LoopQ (P:Program) (c:ACode) (Q:Ex->St->Prop) (σ:St):Prop where
 h:awp P (.loop c) Q σ
structure CutQ (P:Program) (c:ACode) (Q:Ex->St->Prop) (σ:St):Prop where
 h:awp P (.cut c) Q σ
def vc (P:Program):ACode->(Ex->St->Prop)->St->Prop
 | .skip,Q,σ=>Q .normal σ
 | .reg gs,Q,σ=>Wb P gs (Q .normal) σ
 | .dreg pre post,Q,σ=>Avh P (W8 pre) σ pre [] [] [] (Wb P post (Q .normal))
 | .dregp n0 ds pre post,Q,σ=>Wb P ((pre.take n0).map (·.1)) (λσ1=>match Ajv n0 (K9 ds σ1) with
   | true=>Bz (K9 ds σ1) λσ2=>Bz (Aa6 n0) λacc=>Avh P (W8 pre) σ2 (pre.drop n0) acc [] [] (Wb P post (Q .normal))
   | false=>False) σ
 | .seq a b,Q,σ=>vc P a (Afn (vc P b Q) Q) σ
 | .cond x t e,Q,σ=>match Ai σ x with
   | .val (.bool b)=>Br b (Bz (Beg x true σ) (vc P t Q)) (Bz (Beg x false σ) (vc P e Q))
   | _=>False
 | .block i c,Q,σ=>vc P c (Axf i Q) σ
 | .loop c,Q,σ=>LoopQ P c Q σ
 | .exit i,Q,σ=>Q (.exit i) σ
 | .ret,Q,σ=>Q .ret σ
 | .drop ds c,Q,σ=>Bz (K9 ds σ) (vc P c Q)
 | .cut c,Q,σ=>CutQ P c Q σ
 | .dregl A pl,Q,σ=>Aw6 A (Asd P A (Q .normal) pl true) σ
 | .frz ss c,Q,σ=>Alp ss (vc P c Q) σ
theorem A4q {x:X} {b:Bool} {σ:St} (h:Ai σ x = .val (.bool b)):Beg x b σ=σ:=by
 cases x with
 | c v=>rfl
 | t s=>
   refine Uv ?_;simp only [Ai] at h;split at h
   ·rename_i v hv;split at h
    ·cases h
    ·rw [hv];exact h
   ·exact h
theorem Ad0 {P:Program} : ∀ {c:ACode} {Q:Ex->St->Prop} {σ:St},vc P c Q σ->awp P c Q σ:=by
 intro c
 induction c with
 | skip=>intro Q σ h;exact h
 | reg gs=>intro Q σ h;exact Xk h
 | dreg pre post=>intro Q σ h;exact Xy (λ_=>Xk) (Amf rfl rfl (by simp) h)
 | dregp n0 ds pre post=>
   intro Q σ h;refine Sx (λσ1 h1=> ?_) (Xk h);split at h1
   ·rename_i hd;rw [A5,A5] at h1;refine ⟨hd,Xy (λ_=>Xk) (Amf (by simp) (by simp) (by simp) h1)⟩
   ·exact h1.elim
 | seq a b ih1 ih2=> intro Q σ h;have h':vc P a (Afn (vc P b Q) Q) σ:=h;show awp P a (Afn (awp P b Q) Q) σ;exact U4 (Q:=Afn (vc P b Q) Q) (Qq (λ_ hh=>ih2 hh) λ_ _=>id) (ih1 h')
 | cond x t e ih1 ih2=>
   intro Q σ h;simp only [vc] at h;simp only [awp];split at h
   ·rename_i b hb;simp only [hb];refine ⟨λe=> ?_,λe=> ?_⟩
    ·subst e;have:=h.t rfl;rw [A5,A4q hb] at this;exact ih1 this
    ·subst e;have:=h.f rfl;rw [A5,A4q hb] at this;exact ih2 this
   ·exact h.elim
 | block i c ih=>intro Q σ h;exact ih h
 | loop c ih=>intro Q σ h;exact h.h
 | exit i=>intro Q σ h;exact h
 | ret=>intro Q σ h;exact h
 | drop ds c ih=>intro Q σ h;simp only [vc] at h;rw [A5] at h;exact ih h
 | cut c ih=>intro Q σ h;exact h.h
 | frz ss c ih=>intro Q σ h;simp only [vc] at h;exact ih (A3i h)
 | dregl A R=>intro Q σ h;exact Afo (λ_=>Axi) (As7 h)
theorem Aw4 {P:Program} {f N:Nat} {ac:ACode} {rs:List RS} {args:List V} {R:V->List V->Prop} (hf:Az P f N ac rs=true) (hn:args.length<=N)
  (h:vc P ac (A24 N rs args R) (entry N 0 args)):Tri P f args R:=A9t hf hn (Ad0 h)
def Bd0 {α:Type} (ks:List Nat) (st:α->St) (inv:α->Prop) (μ:α->Nat) (a:α) (σ:St):Prop := ∃b,restrict ks σ=st b/\inv b/\μ b<μ a
theorem LoopQ.by {α:Type} {P:Program} {c:ACode} {Q:Ex->St->Prop} {σ:St} (ks:List Nat) (st:α->St) (inv:α->Prop) (μ:α->Nat) (a0:α) (h0:restrict ks σ=st a0) (hi:inv a0)
  (hr : ∀a,inv a->vc P c (Afn (Bd0 ks st inv μ a) Q) (st a)):LoopQ P c Q σ:=by
 refine ⟨A8s ks (λn σ => ∃a,σ=st a/\inv a/\n=μ a) (μ a0) ⟨a0,h0,hi,rfl⟩ ?_⟩;rintro n σ ⟨a,rfl,ha,rfl⟩;refine U4 (Qq ?_ λ_ _=> .inl) (Ad0 (hr a ha));rintro σ' ⟨b,h1,h2,h3⟩;exact ⟨μ b,h3,b,h1,h2,rfl⟩
def Ret (P:Program) (f:Nat) (vs:List V) (v:V):Prop:=Tri P f vs (λr _=>r=v)
theorem A4 {P:Program} {f N:Nat} {ac:ACode} {rs:List RS} {args:List V} {v:V} (hf:Az P f N ac rs=true) (hn:args.length<=N)
  (h:vc P ac (A24 N rs args λr _=>r=v) (entry N 0 args)):Ret P f args v:=Aw4 hf hn h
abbrev Af (n:Int):V:= .int .i64 n
end Go.Proofs.YtmkgjnphianalaaGreat.Ax
namespace Go.Proofs.YtmkgjnphianalaaGreat.Ax
open Go
noncomputable def ask {α:Type} (p:Prop) (x:Option α):Option α:=@ite _ p (Classical.propDecidable p) x none
def nth {α:Type} [Inhabited α] (xs:List α) (i:Nat):α:=xs.getD i default
theorem Za {α:Type} {p:Prop} {x:Option α} {v:α}:ask p x=some v↔p/\x=some v:=by unfold ask;split<;>simp_all
theorem Ae {α:Type} {p:Prop} {x:Option α} (h:p):ask p x=x:=by unfold ask;rw [if_pos h]
def Am3 {σ τ:Type} (body:σ->Option (σ ⊕ τ)):Nat->σ->Option τ
 | 0,_=>none
 | n+1,s=>match body s with
   | none=>none
   | some (.inl s')=>Am3 body n s'
   | some (.inr t)=>some t
theorem A48 {σ τ:Type} {body:σ->Option (σ ⊕ τ)} : ∀ {n m:Nat} {s:σ} {t:τ},n<=m->Am3 body n s=some t->Am3 body m s=some t:=by
 intro n
 induction n with
 | zero=>intro m s t _ h;cases h
 | succ n ih=>
   intro m s t hm h
   match m,hm with
   | m+1,hm=>
     simp only [Am3] at h ⊢;split at h
     ·cases h
     ·exact ih (by omega) h
     ·exact h
open Classical in
noncomputable def Ak {σ τ:Type} (body:σ->Option (σ ⊕ τ)) (s:σ):Option τ:=if h : ∃t n,Am3 body n s=some t then some (Classical.choose h) else none
theorem Q4 {σ τ:Type} {body:σ->Option (σ ⊕ τ)} {s:σ} {t:τ}:Ak body s=some t ↔ ∃n,Am3 body n s=some t:=by
 unfold Ak;constructor
 ·intro h;split at h
  ·rename_i hx;cases h;exact Classical.choose_spec hx
  cases h
 rintro ⟨n,hn⟩;rw [dif_pos ⟨t,n,hn⟩];obtain ⟨m,hm⟩:=Classical.choose_spec (⟨t,n,hn⟩ : ∃t n,Am3 body n s=some t);have h1:=A48 (Nat.le_max_left n m) hn;have h2:=A48 (Nat.le_max_right n m) hm;rw [h1] at h2;exact h2.symm
theorem Azo {σ τ:Type} (body:σ->Option (σ ⊕ τ)) (s:σ):Ak body s=(match body s with
  | none=>none
  | some (.inl s')=>Ak body s'
  | some (.inr t)=>some t):=by
 apply Option.ext;intro t;rw [Q4];constructor
 ·rintro ⟨n,hn⟩;cases n with
  | zero=>cases hn
  | succ n=>
    simp only [Am3] at hn;split at hn
    ·cases hn
    ·exact Q4.2 ⟨n,hn⟩
    ·exact hn
 intro h;split at h
 ·cases h
 ·rename_i s' e;obtain ⟨n,hn⟩:=Q4.1 h;exact ⟨n+1,by simp only [Am3,e];exact hn⟩
 rename_i t' e;exact ⟨1,by simp only [Am3,e];exact h⟩
def upO {α:Type} (f:Nat->Option α):Prop := ∀n m v,n<=m->f n=some v->f m=some v
open Classical in
noncomputable def Azw {α:Type} (f:Nat->Option α):Option α:=if h : ∃v n,f n=some v then some (Classical.choose h) else none
theorem A7h {α:Type} {f:Nat->Option α} {v:α} (h:Azw f=some v) : ∃n,f n=some v:=by
 unfold Azw at h;split at h
 ·rename_i hx;cases h;exact Classical.choose_spec hx
 cases h
theorem Ba8 {α:Type} {f:Nat->Option α} (hu:upO f) {v:α} {n:Nat} (h:f n=some v):Azw f=some v:=by unfold Azw;rw [dif_pos ⟨v,n,h⟩];obtain ⟨m,hm⟩:=Classical.choose_spec (⟨v,n,h⟩ : ∃v n,f n=some v);have h1:=hu _ _ _ (Nat.le_max_left n m) h;have h2:=hu _ _ _ (Nat.le_max_right n m) hm;rw [h1] at h2;exact h2.symm
abbrev Aw (α:Type):List α:=[]
abbrev slr {α:Type} (o:Bool) (m:Nat) (f:α->V) (xs:List α):V:= .sl o m (xs.map f)
class Fz {α:Type} (f:α->V) (g:outParam (α->V)):Prop where
 eq : ∀x,(f x).fz=g x
instance {k:IntKind}:Fz (V.int k) (V.int k):=⟨λ_=>rfl⟩
instance:Fz Af Af:=⟨λ_=>rfl⟩
instance:Fz V.bool V.bool:=⟨λ_=>rfl⟩
instance:Fz V.str V.str:=⟨λ_=>rfl⟩
theorem Ab {α:Type} (f:α->V) {g:α->V} [Fz f g] (xs:List α):fzL (xs.map f)=xs.map g:=by
 induction xs with
 | nil=>rfl
 | cons x r ih=>simp [fzL,Fz.eq,ih]
instance {α:Type} (m:Nat) (f g:α->V) [Fz f g]:Fz (slr true m f) (slr false m g):=⟨λx=>by simp [slr,V.fz,Ab]⟩
instance {α:Type} (m:Nat) (f:α->V):Fz (slr false m f) (slr false m f):=⟨λx=>by simp [slr,V.fz]⟩
theorem Ac {α:Type} (m:Nat) (f:α->V) {g:α->V} [Fz f g] (xs:List α):V.fz (.sl true m (xs.map f)) = .sl false m (xs.map g):=by simp [V.fz,Ab]
theorem Ad {α:Type} (f:α->V) {g:α->V} [Fz f g] (x:α):V.fz (f x)=g x:=Fz.eq x
abbrev rA2 {α:Type} (f:α->V) (p:α×α):V:= .agg [f p.1,f p.2]
abbrev rA3 {α:Type} (f:α->V) (p:α×α×α):V:= .agg [f p.1,f p.2.1,f p.2.2]
abbrev rP {α:Type} (o:Bool) (f:α->V) (x:α):V:= .ptr o (f x)
abbrev rO {α:Type} (o:Bool) (f:α->V):Option α->V
 | none=> .nilp
 | some x=> .ptr o (f x)
abbrev rOl {α:Type} (m:Nat) (f:α->V):Option (List α)->V
 | none=> .nl m
 | some xs=> .sl false m (xs.map f)
abbrev rOw {α:Type} (m:Nat) (f:α->V):Option (List α)->V
 | none=> .nl m
 | some xs=> .sl true m (xs.map f)
abbrev rMp {β:Type} (o:Bool) (f:β->Lf) (l:List (ByteArray×β)):V:= .mp o (l.map λe=>(e.1,f e.2))
instance {β:Type} (o:Bool) (f:β->Lf):Fz (rMp o f) (rMp false f):=⟨λx=>by simp [V.fz]⟩
theorem LkQ.one {β:Type} (f:β->Lf) (g:β->V) (l:List (ByteArray×β)) (z0:β) {es:List (ByteArray×Lf)} {s:ByteArray} {z:Lf} {K:V->Prop} (e:es=l.map λe=>(e.1,f e.2)) (hz:z=f z0) (hg : ∀b,(f b).v=g b)
  (h:K (g ((Lp l s).getD z0))):LkQ es s z false K:=by
 subst e;subst hz;refine ⟨?_⟩;unfold A25;rw [Alw,Option.getD_map,hg];exact h
theorem LkQ.two {β:Type} (f:β->Lf) (g:β->V) (l:List (ByteArray×β)) (z0:β) {es:List (ByteArray×Lf)} {s:ByteArray} {z:Lf} {K:V->Prop} (e:es=l.map λe=>(e.1,f e.2)) (hz:z=f z0) (hg : ∀b,(f b).v=g b)
  (h:K (.tup [g ((Lp l s).getD z0),.bool (Lp l s).isSome])):LkQ es s z true K:=by
 subst e;subst hz;refine ⟨?_⟩;unfold A25;rw [Alw,Option.getD_map,hg,Option.isSome_map];exact h
theorem MsQ.o {β:Type} (f:β->Lf) (l:List (ByteArray×β)) (b:β) {es:List (ByteArray×Lf)} {s:ByteArray} {x:Lf} {K:List (ByteArray×Lf)->Prop} (e:es=l.map λe=>(e.1,f e.2)) (hx:x=f b)
  (h:K ((W6 l s b).map λe=>(e.1,f e.2))):MsQ es s x K:=by
 subst e;subst hx;exact ⟨by rw [Avj];exact h⟩
theorem BsQ.o (ns:List Int) {xs:List V} {K:ByteArray->Prop} (e:xs=ns.map (V.int .u8)) (h:K (Apv ns)):BsQ xs K:=by subst e;exact ⟨ns,A3w ns,h⟩
instance {α:Type} (f g:α->V) [Fz f g]:Fz (rP true f) (rP false g):=⟨λx=>by simp [V.fz,Fz.eq]⟩
instance {α:Type} (m:Nat) (f:α->V):Fz (rOl m f) (rOl m f):=⟨λx=>by cases x<;>simp [rOl,V.fz]⟩
instance {α:Type} (f g:α->V) [Fz f g]:Fz (rO true f) (rO false g):=⟨λx=>by cases x<;>simp [rO,V.fz,Fz.eq]⟩
instance {α:Type} (f g:α->V) [Fz f g]:Fz (rA2 f) (rA2 g):=⟨λx=>by simp [V.fz,fzL,Fz.eq]⟩
instance {α:Type} (f g:α->V) [Fz f g]:Fz (rA3 f) (rA3 g):=⟨λx=>by simp [V.fz,fzL,Fz.eq]⟩
def One {α:Type} (f:α->V):Prop := ∀x,(f x).cells=[f x]/\(f x).isAgg=false
def Ad7 {α:Type} (m:Nat) (f:α->V):Prop := ∀x,(f x).cells.length=m/\Dp (f x).cells=true
section
variable {α ρ:Type} {v:ρ} {x y:Option ρ} {X Y:Prop}
theorem Br.od {p:Prop} [Decidable p] (h:(if p then x else y)=some v) (h1:p->x=some v->X) (h2:¬p->y=some v->Y):Br (decide p) X Y:=by
 by_cases hp:p
 ·rw [if_pos hp] at h;exact ⟨λ_=>h1 hp h,λe=>absurd hp (of_decide_eq_false e)⟩
 rw [if_neg hp] at h;exact ⟨λe=>absurd (of_decide_eq_true e) hp,λ_=>h2 hp h⟩
theorem Br.oe {a b:Int} (h:(if a=b then x else y)=some v) (h1:a=b->x=some v->X) (h2:¬a=b->y=some v->Y):Br (a==b) X Y:=by
 have:(a==b)=decide (a=b):=by rw [Bool.eq_iff_iff];simp
 rw [this];exact Br.od h h1 h2
theorem Br.on {a b:Int} (h:(if a≠b then x else y)=some v) (h1:a≠b->x=some v->X) (h2:¬a≠b->y=some v->Y):Br (a != b) X Y:=by
 have:(a != b)=decide (a≠b):=by rw [Bool.eq_iff_iff];simp
 rw [this];exact Br.od h h1 h2
theorem Br.ob {b:Bool} (h:(if b=true then x else y)=some v) (h1:b=true->x=some v->X) (h2:¬b=true->y=some v->Y):Br b X Y:=by
 cases b
 ·exact ⟨λe=>Bool.noConfusion e,λ_=>h2 (by simp) (by simpa using h)⟩
 exact ⟨λ_=>h1 rfl (by simpa using h),λe=>Bool.noConfusion e⟩
theorem Br.flip {b:Bool} (h:Br b Y X):Br (!b) X Y:=by
 cases b
 ·exact ⟨λ_=>h.f rfl,λe=>Bool.noConfusion e⟩
 exact ⟨λe=>Bool.noConfusion e,λ_=>h.t rfl⟩
theorem Ask.o {p:Prop} (h:ask p x=some v) (hk:p->x=some v->X):Ask p X:=by obtain ⟨h1,h2⟩:=Za.1 h;exact ⟨h1,hk h1 h2⟩
theorem Idx.o {j:Int} {lo n:Nat} {K:Int->Prop} (h:(if j=lo then x else y)=some v) (h1:x=some v->K lo) (h2:y=some v->Idx j (lo+1) n K):Idx j lo n K:=by
 refine ⟨λa b=> ?_⟩;by_cases hj:j=lo
 ·rw [if_pos hj] at h;rw [hj];exact h1 h
 rw [if_neg hj] at h;exact (h2 h).h (by omega) b
theorem Idx.lit {j:Int} {lo n:Nat} {K:Int->Prop} (h:K j):Idx j lo n K:=⟨λ_ _=>h⟩
theorem Len.mrep {f:α->V} {w:α} {n:Nat} {K:Nat->Prop} (h:K n):Len ((List.replicate n w).map f) K:=⟨by rw [List.length_map,List.length_replicate];exact h⟩
theorem Len.nil {K:Nat->Prop} (h:K 0):Len [] K:=⟨h⟩
theorem Len.cons {u:V} {us:List V} {K:Nat->Prop} (h:Len us λn=>K (n+1)):Len (u::us) K:=⟨h.h⟩
variable {f:α->V}
theorem Bbg [Inhabited α] (f:α->V) {xs:List α} {j:Nat} (hj:j<xs.length):(xs.map f).getD j .dead=f (nth xs j):=by simp [List.getD_eq_getElem?_getD,nth,hj]
theorem Elem.o [Inhabited α] {xs:List α} {j:Nat} {K:V->Prop} (hj:j<xs.length) (hk:K (f (nth xs j))):Elem (xs.map f) j K:=⟨by rw [Bbg f hj];exact hk⟩
theorem Acx (hf:One f) (xs:List α):Bx (xs.map f)=xs.map f:=by
 induction xs with
 | nil=>rfl
 | cons x r ih=>simp only [List.map_cons,Bx,(hf x).1,ih];rfl
theorem Bae [Inhabited α] (f:α->V) {xs:List α} {c:Nat} (hc:c<xs.length):(xs.map f).drop c=f (nth xs c)::(xs.map f).drop (c+1):=by rw [List.drop_eq_getElem_cons (by simpa using hc)];simp [nth,List.getD_eq_getElem?_getD,hc]
theorem Cells.one [Inhabited α] (hf:One f) {xs:List α} {c:Nat} {K:List V->Prop} (hc:c<xs.length) (hk:K [f (nth xs c)]):Cells (Bx (xs.map f)) c 1 K:=by
 refine ⟨_,?_,?_,hk⟩
 ·rw [Acx hf,List.length_map];exact hc
 rw [Acx hf,Bae f hc];rfl
theorem Au2 [Inhabited α] {m:Nat} (hf:Ad7 m f) : ∀ {xs:List α} {i:Nat},i<xs.length -> ∃l r,Bx (xs.map f)=l++((f (nth xs i)).cells++r)/\l.length=i*m:=by
 intro xs
 induction xs with
 | nil=>intro i h;simp at h
 | cons x t ih=>
   intro i h;cases i with
   | zero=>exact ⟨[],Bx (t.map f),rfl,by simp⟩
   | succ i=> obtain ⟨l,r,e,hl⟩:=ih (i:=i) (by simpa using h);refine ⟨(f x).cells++l,r,by simp only [List.map_cons,Bx,e,List.append_assoc];rfl,?_⟩;rw [List.length_append,(hf x).1,hl,Nat.succ_mul];omega
theorem Cells.wide [Inhabited α] {m:Nat} (hf:Ad7 m f) {xs:List α} {i off n:Nat} {K:List V->Prop} (hi:i<xs.length) (hn:off+n<=m) (hk:K (((f (nth xs i)).cells.drop off).take n)) :
  Cells (Bx (xs.map f)) (Ap i m+off) n K:=by
 obtain ⟨l,r,e,hl⟩:=Au2 hf hi;have hw:=(hf (nth xs i)).1;refine ⟨_,?_,?_,hk⟩
 ·rw [e,Xt,List.length_append,List.length_append,hl,hw];omega
 rw [e,Xt,<-hl,<-List.drop_drop,List.drop_left,List.drop_append_of_le_length (by omega),List.take_append_of_le_length (by simp;omega)]
theorem Cells.lit {xs us:List V} {c n:Nat} {K:List V->Prop} (h:Nat.ble (c+n) xs.length=true) (e:(xs.drop c).take n=us) (hk:K us):Cells xs c n K:=⟨us,Nat.le_of_ble_eq_true h,e,hk⟩
theorem Kid.one [Inhabited α] (hf:One f) {m:Nat} {xs:List α} {c:Nat} {K:V->Prop} (hc:c<xs.length) (hk:K (f (nth xs c))):Kid (.sl true m (xs.map f)) c K:= ⟨_,rfl,by simp only [V.kids,Acx hf];simp [nth,List.getD_eq_getElem?_getD,hc],hk⟩
theorem Kid.wide [Inhabited α] {m:Nat} (hf:Ad7 m f) {xs:List α} {i off:Nat} {u:V} {K:V->Prop} (hi:i<xs.length) (hu:(f (nth xs i)).cells[off]? = some u) (hk:K u):Kid (.sl true m (xs.map f)) (Ap i m+off) K:=by obtain ⟨l,r,e,hl⟩:=Au2 hf hi;refine ⟨u,rfl,?_,hk⟩;have ho:off<(f (nth xs i)).cells.length:=(List.getElem?_eq_some_iff.1 hu).1;simp only [V.kids,e];rw [Xt,List.getElem?_append_right (by omega),hl,Nat.add_sub_cancel_left,List.getElem?_append_left ho,hu]
theorem Kid.lit {T k:V} {c:Nat} {K:V->Prop} (h1:T.stepOk=true) (h2:T.kids[c]? = some k) (hk:K k):Kid T c K:=⟨k,h1,h2,hk⟩
theorem A6e (hf:One f) : ∀ {xs:List α} {c:Nat} (w:α),c<xs.length->Rz (xs.map f) c [f w]=some ((xs.set c w).map f):=by
 intro xs
 induction xs with
 | nil=>intro c w h;simp at h
 | cons x r ih=>
   intro c w h;have hlen:(f x).cells.length=1:=by rw [(hf x).1];rfl
   simp only [List.map_cons,Rz,hlen];cases c with
   | zero=>
     have:(f x).setCells 0 [f w]=some (f w):=by
      have hx:=(hf x).2;have hv:=(hf w).2;unfold V.setCells;split
      ·simp_all [V.isAgg]
      ·simp [Aqk,hv]
     simp [this]
   | succ c=> have:=ih (c:=c) w (by simpa using h);simp [this]
theorem A2g (hf:One f) : ∀ {xs:List α} {c:Nat} (w:α),c<xs.length->Rz ((xs.map f).set c .dead) c [f w]=some ((xs.set c w).map f):=by
 intro xs
 induction xs with
 | nil=>intro c w h;simp at h
 | cons x r ih=>
   intro c w h;have hlen:(f x).cells.length=1:=by rw [(hf x).1];rfl
   cases c with
   | zero=> simp only [List.map_cons,List.set_cons_zero,Rz];simp [V.cells,V.setCells,Aqk,(hf w).2]
   | succ c=> have:=ih (c:=c) w (by simpa using h);simp [Rz,hlen,this]
theorem SetKids.fill (hf:One f) {o:Bool} {m:Nat} {xs:List α} {c:Nat} {us:List V} {K:V->Prop} (w:α) (e:us=[f w]) (hc:c<xs.length) (hk:K (.sl o m ((xs.set c w).map f))):SetKids (.sl o m (Bcu f xs c)) c us K:=by subst e;exact ⟨_,by simp only [V.setKids,Bcu,A2g hf w hc,Option.map_some],hk⟩
theorem SetKids.one (hf:One f) {o:Bool} {m:Nat} {xs:List α} {c:Nat} {us:List V} {K:V->Prop} (w:α) (e:us=[f w]) (hc:c<xs.length) (hk:K (.sl o m ((xs.set c w).map f))):SetKids (.sl o m (xs.map f)) c us K:=by subst e;exact ⟨_,by simp only [V.setKids,A6e hf w hc,Option.map_some],hk⟩
theorem A2l [Inhabited α] {m:Nat} (hf:Ad7 m f) : ∀ {xs:List α} {i off:Nat} {us:List V} (w:α),i<xs.length->(f (nth xs i)).setCells off us=some (f w)->off<m->Rz (xs.map f) (i*m+off) us=some ((xs.set i w).map f):=by
 intro xs
 induction xs with
 | nil=>intro i off us w h;simp at h
 | cons x r ih=>
   intro i off us w h hs ho;simp only [List.map_cons,Rz,(hf x).1];cases i with
   | zero=> have hs':(f x).setCells off us=some (f w):=hs;simp [ho,hs']
   | succ i=> have:=ih (i:=i) (off:=off) (us:=us) w (by simpa using h) hs ho;rw [if_neg (by rw [Nat.succ_mul];omega),show (i+1)*m+off-m=i*m+off by rw [Nat.succ_mul];omega,this];simp
theorem SetKids.wide [Inhabited α] {m:Nat} (hf:Ad7 m f) {o:Bool} {xs:List α} {i off:Nat} {us:List V} {K:V->Prop} (w:α) (hi:i<xs.length) (hs:(f (nth xs i)).setCells off us=some (f w)) (ho:off<m) (hk:K (.sl o m ((xs.set i w).map f))) :
  SetKids (.sl o m (xs.map f)) (Ap i m+off) us K:=
 ⟨_,by simp only [V.setKids,Xt,A2l hf w hi hs ho,Option.map_some],hk⟩
theorem Az7 [Inhabited α] {m:Nat} (hf:Ad7 m f) : ∀ {xs:List α} {i off:Nat} {us:List V} {v:V},i<xs.length->(f (nth xs i)).setCells off us=some v->off<m->Rz (xs.map f) (i*m+off) us=some (holeW f xs i v):=by
 intro xs
 induction xs with
 | nil=>intro i off us v h;simp at h
 | cons x r ih=>
   intro i off us v h hs ho;simp only [List.map_cons,Rz,(hf x).1,holeW];cases i with
   | zero=> have hs':(f x).setCells off us=some v:=hs;simp [ho,hs']
   | succ i=> have:=ih (i:=i) (off:=off) (us:=us) (v:=v) (by simpa using h) hs ho;rw [if_neg (by rw [Nat.succ_mul];omega),show (i+1)*m+off-m=i*m+off by rw [Nat.succ_mul];omega,this];simp [holeW]
theorem Azm {m:Nat} (hf:Ad7 m f) : ∀ {xs:List α} {i off:Nat} {us:List V} {v:V} (w:α),i<xs.length->v.cells.length=m->v.setCells off us=some (f w)->off<m->Rz (holeW f xs i v) (i*m+off) us=some ((xs.set i w).map f):=by
 intro xs
 induction xs with
 | nil=>intro i off us v w h;simp at h
 | cons x r ih=>
   intro i off us v w h hv hs ho;cases i with
   | zero=>simp [holeW,Rz,hv,ho,hs]
   | succ i=> have:=ih (i:=i) (off:=off) (us:=us) (v:=v) w (by simpa using h) hv hs ho;simp only [holeW,List.map_cons,List.set_cons_succ,Rz,(hf x).1] at this ⊢;rw [if_neg (by rw [Nat.succ_mul];omega),show (i+1)*m+off-m=i*m+off by rw [Nat.succ_mul];omega,this];simp
theorem Len.holeW {xs:List α} {i:Nat} {v:V} {K:Nat->Prop} (h:K xs.length):Len (holeW f xs i v) K:=⟨by simp only [Ax.holeW,List.length_set,List.length_map];exact h⟩
theorem SetKids.mkholeW [Inhabited α] {m:Nat} (hf:Ad7 m f) {o:Bool} {xs:List α} {i off:Nat} {us:List V} {K:V->Prop} (v:V) (hi:i<xs.length) (hs:(f (nth xs i)).setCells off us=some v) (ho:off<m) (hk:K (.sl o m (holeW f xs i v))) :
  SetKids (.sl o m (xs.map f)) (Ap i m+off) us K:=
 ⟨_,by simp only [V.setKids,Xt,Az7 hf hi hs ho,Option.map_some],hk⟩
theorem SetKids.fillW {m:Nat} (hf:Ad7 m f) {o:Bool} {xs:List α} {i off:Nat} {us:List V} {v:V} {K:V->Prop} (w:α) (hi:i<xs.length) (hv:v.cells.length=m) (hs:v.setCells off us=some (f w)) (ho:off<m) (hk:K (.sl o m ((xs.set i w).map f))) :
  SetKids (.sl o m (holeW f xs i v)) (Ap i m+off) us K:=
 ⟨_,by simp only [V.setKids,Xt,Azm hf w hi hv hs ho,Option.map_some],hk⟩
theorem SetKids.lit {T T':V} {c:Nat} {us:List V} {K:V->Prop} (h:T.setKids c us=some T') (hk:K T'):SetKids T c us K:=⟨T',h,hk⟩
theorem MkQ.o {d n:Nat} {z:V} {K:List V->Prop} (f:α->V) (w:α) (e:z=f w) (hk:K ((List.replicate n w).map f)):MkQ d n z K:=⟨by rw [e,<-List.map_replicate];exact hk⟩
theorem A23 {m:Nat} (hf:Ad7 m f) (ws:List α):T4 m (ws.map f)=true:=by
 induction ws with
 | nil=>rfl
 | cons w r ih=>simp [T4,(hf w).1,(hf w).2,ih]
theorem BslQ.o {d m:Nat} {us:List V} {K:List V->Prop} (f:α->V) (ws:List α) (hf:Ad7 m f) (e:us=ws.map f) (hk:K (ws.map f)):BslQ d m us K:=by subst e;exact ⟨A23 hf ws,hk⟩
theorem BslQ.lit {d m:Nat} {us:List V} {K:List V->Prop} (e:T4 m us=true) (hk:K us):BslQ d m us K:=⟨e,hk⟩
theorem Awb {m:Nat} (hf:Ad7 m f) (ws:List α):Dp (Bx (ws.map f))=true:=by
 induction ws with
 | nil=>rfl
 | cons w r ih=> have:=(hf w).2;simp only [Dp,List.map_cons,Bx,List.all_append,Bool.and_eq_true] at this ih ⊢;exact ⟨this,ih⟩
theorem AppQ.o {m d:Nat} {us vs:List V} {K:List V->Prop} (f:α->V) (hf:Ad7 m f) (xs ys:List α) (ex:us=xs.map f) (ey:vs=ys.map f) (h:ask (xs.length+ys.length<=LIM) x=some v) (hk:x=some v->K ((xs++ys).map f)):AppQ d us vs K:=by subst ex;subst ey;obtain ⟨h1,h2⟩:=Za.1 h;exact ⟨Awb hf ys,by simpa using h1,by rw [<-List.map_append];exact hk h2⟩
theorem Amv (hf : ∀x,Bf (f x).cells=false) (ws:List α):Bf (Bx (ws.map f))=false:=by
 induction ws with
 | nil=>rfl
 | cons w r ih=>simp only [List.map_cons,Bx,Ic,hf w,ih];rfl
theorem SlcQ.o {l h:Int} {xs:List α} {K:List V->Prop} (f:α->V) (hh:ask (0<=l/\l<=h/\h<=(xs.length:Int)) x=some v) (hk:x=some v->K (((xs.drop l.toNat).take (h.toNat-l.toNat)).map f)):SlcQ (xs.map f) l h K:=by obtain ⟨⟨h1,h2,h3⟩,h4⟩:=Za.1 hh;exact ⟨h1,h2,by simpa using h3,by rw [<-List.map_drop,<-List.map_take];exact hk h4⟩
theorem SlcQ.lst {l h:Int} {xs:List α} {us:List V} {K:List V->Prop} (f:α->V) (e:us=xs.map f) (hh:ask (0<=l/\l<=h/\h<=(xs.length:Int)) x=some v) (hk:x=some v->K (((xs.drop l.toNat).take (h.toNat-l.toNat)).map f)):SlcQ us l h K:=by subst e;exact SlcQ.o f hh hk
theorem Elem.lst [Inhabited α] (f:α->V) (xs:List α) {us:List V} {j:Nat} {K:V->Prop} (e:us=xs.map f) (hj:j<xs.length) (h:K (f (nth xs j))):Elem us j K:=by subst e;exact Elem.o hj h
theorem Cells.lst [Inhabited α] (f:α->V) (hf:One f) (xs:List α) {us:List V} {j:Nat} {K:List V->Prop} (e:us=xs.map f) (hj:j<xs.length) (h:K [f (nth xs j)]):Cells us j 1 K:=by rw [e,<-Acx hf];exact Cells.one hf hj h
theorem NoOwn.o (hf : ∀x,Bf (f x).cells=false) {ws:List α} (h:X):NoOwn (ws.map f) X Y:=⟨.inl ⟨Amv hf ws,h⟩⟩
theorem NoOwn.lit {us:List V} (e:Bf (Bx us)=false) (h:X):NoOwn us X Y:=⟨.inl ⟨e,h⟩⟩
theorem NoOwn.own {us:List V} (e:Bf (Bx us)=true) (h:Y):NoOwn us X Y:=⟨.inr ⟨e,h⟩⟩
end
def J7 (P:Program) (f:Nat) (vs:List V) (v:V) (k:Nat) (u:V):Prop:=Tri P f vs (λr o=>r=v/\o[k]? = some u)
theorem Ij {P:Program} {f N:Nat} {ac:ACode} {rs:List RS} {args:List V} {v u:V} {k:Nat} (hf:Az P f N ac rs=true) (hn:args.length<=N)
  (h:vc P ac (A24 N rs args λr o=>r=v/\o[k]? = some u) (entry N 0 args)):J7 P f args v k u:=Aw4 hf hn h
theorem RdL.drop {w:World} {O:Nat->Prop} : ∀(k:Nat) {os:List V} {us:List Value} {fp:List Nat},RdL w O os us fp -> ∃fp',RdL w O (os.set k .dead) us fp'/\List.Sublist fp' fp
 | _,_,_,_,.nil=>⟨[],.nil,.slnil⟩
 | 0,_,_,_,.leaf _ t=>⟨_,.leaf (.dead _) t,.refl _⟩
 | 0,_,_,_,.grp _ _ t=>⟨_,.leaf (.dead _) t,List.sublist_append_right _ _⟩
 | 0,_,_,_,.fblk _ _ _ _ t=>⟨_,.leaf (.dead _) t,.refl _⟩
 | 0,_,_,_,.oblk _ _ _ _ _ t=>⟨_,.leaf (.dead _) t,(List.sublist_append_right _ _).cons _⟩
 | 0,_,_,_,.mpf _ _ _ t=>⟨_,.leaf (.dead _) t,.refl _⟩
 | 0,_,_,_,.mpo _ _ _ t=>⟨_,.leaf (.dead _) t,(List.Sublist.refl _).cons _⟩
 | k+1,_,_,_,.leaf h t=>let ⟨_,a,b⟩:=RdL.drop k t;⟨_,.leaf h a,b⟩
 | k+1,_,_,_,.grp h s t=>let ⟨_,a,b⟩:=RdL.drop k t;⟨_,.grp h s a,(List.Sublist.refl _).append b⟩
 | k+1,_,_,_,.fblk h hc hO s t=>let ⟨_,a,b⟩:=RdL.drop k t;⟨_,.fblk h hc hO s a,b⟩
 | k+1,_,_,_,.oblk h hb hO hk s t=>let ⟨_,a,b⟩:=RdL.drop k t;⟨_,.oblk h hb hO hk s a,((List.Sublist.refl _).append b).cons_cons _⟩
 | k+1,_,_,_,.mpf hb he hO t=>let ⟨_,a,b⟩:=RdL.drop k t;⟨_,.mpf hb he hO a,b⟩
 | k+1,_,_,_,.mpo hb he hO t=>let ⟨_,a,b⟩:=RdL.drop k t;⟨_,.mpo hb he hO a,b.cons_cons _⟩
theorem Tri.drop {P:Program} {f:Nat} {args:List V} {k:Nat} {R:V->List V->Prop} (h:Tri P f args λr o=>R r (o.set k .dead)):Tri P f args R:=by intro w O vals fp h1 h2;obtain ⟨h3,h4⟩:=h w O vals fp h1 h2;refine ⟨h3,h4.mono ?_⟩;rintro e w' ⟨res,outs,rv,O',fpr,fpo,hR,he,r1,ro,hnd,hm⟩;obtain ⟨fp',a,b⟩:=RdL.drop k ro;have hs:List.Sublist (fpr++fp') (fpr++fpo):=(List.Sublist.refl _).append b;exact ⟨res,_,rv,O',fpr,fp',hR,he,r1,a,hs.nodup hnd,⟨hm.os,hm.tape,hm.output,hm.size,hm.same,λb hb=>hm.new b (hs.subset hb)⟩⟩
theorem RdL.deads {w:World} {O:Nat->Prop} : ∀(us:List Value),RdL w O (List.replicate us.length .dead) us []
 | []=> .nil
 | _::us=> .leaf (.dead _) (RdL.deads us)
theorem Tri.freeze {P:Program} {f:Nat} {args:List V} {R:V->List V->Prop} (h:Tri P f args λr o=>R r.fz o):Tri P f args R:=by
 intro w O vals fp h1 h2;obtain ⟨h3,h4⟩:=h w O vals fp h1 h2;refine ⟨h3,h4.mono ?_⟩;rintro e w' ⟨res,outs,rv,O',fpr,fpo,hR,he,r1,ro,hnd,hm⟩;have hd:=List.nodup_append.1 hnd;have hnew : ∀b,b∈fpr->b∈fp\/w.heap.size<=b:=λb hb=>hm.new b (by simp [hb])
 refine ⟨res.fz,outs,rv,λb=>O' b/\b∉fpr,[],fpo,hR,he,?_,?_,by simpa using hd.2.1,⟨hm.os,hm.tape,hm.output,hm.size,λb hb hS=> ?_,λb hb=>hm.new b (by simpa using Or.inr (by simpa using hb))⟩⟩
 ·have:=r1.fz (O2:=λb=>O' b/\b∉fpr) (λb hb hh=>hh.2 hb) (λb hb _ hh=>hb hh.1);simpa [fzL] using this
 ·exact ro.frame (λb hb=>⟨rfl,(ro.fpO b hb).1,λhh=>hd.2.2 b hh b hb rfl⟩) (λb hb _=>⟨rfl,λhh=>hb hh.1⟩)
 have:=hm.same b hb hS;refine ⟨this.1,⟨λhh=>this.2.1 hh.1,λhh=>⟨this.2.2 hh,λhf=> ?_⟩⟩⟩;rcases hnew b hf with h5 | h5
 ·exact hS h5
 omega
def V.ues:V->V
 | .es m=> .sl false m []
 | x=>x
theorem RdL.ues {w O xs vs fp} (h:RdL w O xs vs fp):RdL w O (xs.map V.ues) vs fp:=by
 induction h with
 | nil=>exact .nil
 | leaf h _ ih=> refine .leaf ?_ ih;cases h<;>simp only [V.ues]<;>constructor
 | grp h s _ _ ih=>
   cases h with
   | agg=>exact .grp (.agg _ _) s ih
   | tup=>exact .grp (.tup _ _) s ih
   | clo=>exact .grp (.clo _ _ _) s ih
   | clov v f cs vs e=>exact .grp (.clov _ _ _ _ e) s ih
   | fclo f cs ch vs e=>exact .grp (.fclo _ _ _ _ e) s ih
 | fblk h hc hO s _ _ ih=>
   cases h with
   | sl o m xs b off cap hm hcap=>exact .fblk (.sl _ _ _ _ _ _ hm hcap) hc hO s ih
   | ptr o x b off=>exact .fblk (.ptr _ _ _ _) hc hO s ih
 | oblk h hb hO hk s _ _ ih=>
   cases h with
   | sl o m xs b off cap hm hcap=>exact .oblk (.sl _ _ _ _ _ _ hm hcap) hb hO hk s ih
   | ptr o x b off=>exact .oblk (.ptr _ _ _ _) hb hO hk s ih
 | mpf hb he hO _ ih=>exact .mpf hb he hO ih
 | mpo hb he hO _ ih=>exact .mpo hb he hO ih
theorem Ret.es {P:Program} {f:Nat} {vs us:List V} {v:V} (e:vs.map V.ues=us) (h:Ret P f us v):Ret P f vs v:=by subst e;intro w O vals fp h1 h2;obtain ⟨h3,h4⟩:=h w O vals fp h1.ues h2;refine ⟨h3,h4.mono ?_⟩;rintro e w' ⟨res,outs,rv,O',fpr,fpo,hR,he,r1,ro,hnd,hm⟩;have hd:=List.nodup_append.1 hnd;exact ⟨res,List.replicate vals.length .dead,rv,O',fpr,[],hR,he,r1,RdL.deads vals,by simpa using hd.1,hm.shrink λb hb=>by simpa using Or.inl (by simpa using hb)⟩
theorem Adw {P:Program} {f N:Nat} {ac:ACode} {rs:List RS} {args:List V} {v:V} (hf:Az P f N ac rs=true) (hn:args.length<=N)
  (h:vc P ac (A24 N rs args λr _=>r.fz=v) (entry N 0 args)):Ret P f args v:=Tri.freeze (R:=λr _=>r=v) (Aw4 hf hn h)
theorem A5l {P:Program} {f N:Nat} {ac:ACode} {rs:List RS} {args:List V} {v u:V} {k:Nat} (hf:Az P f N ac rs=true) (hn:args.length<=N)
  (h:vc P ac (A24 N rs args λr o=>r.fz=v/\o[k]? = some u) (entry N 0 args)):J7 P f args v k u:=Tri.freeze (R:=λr o=>r=v/\o[k]? = some u) (Aw4 hf hn h)
theorem Ret.frz {P:Program} {f:Nat} {vs:List V} {v v':V} (h:Ret P f vs v) (e:v.fz=v'):Ret P f vs v':= Tri.freeze (R:=λr _=>r=v') (Tri.mono h λr _ hr=>by rw [show r=v from hr];exact e)
theorem J7.frz {P:Program} {f k:Nat} {vs:List V} {v v' u:V} (h:J7 P f vs v k u) (e:v.fz=v'):J7 P f vs v' k u:= Tri.freeze (R:=λr o=>r=v'/\o[k]? = some u) (Tri.mono h λr _ hr=>⟨by rw [show r=v from hr.1];exact e,hr.2⟩)
theorem Ret.cast {P:Program} {f:Nat} {vs vs':List V} {v:V} (e:vs=vs') (h:Ret P f vs v):Ret P f vs' v:=e▸h
theorem J7.cast {P:Program} {f k:Nat} {vs vs':List V} {v u:V} (e:vs=vs') (h:J7 P f vs v k u):J7 P f vs' v k u:=e▸h
class NoFz {α:Type} (f:α->V):Prop where
 eq : ∀x,(f x).noFz=true
instance {k:IntKind}:NoFz (V.int k):=⟨λ_=>rfl⟩
instance:NoFz Af:=⟨λ_=>rfl⟩
instance:NoFz V.bool:=⟨λ_=>rfl⟩
instance:NoFz V.str:=⟨λ_=>rfl⟩
theorem Ba {α:Type} {f:α->V} [NoFz f] (xs:List α):Bo (xs.map f)=true:=by
 induction xs with
 | nil=>rfl
 | cons x r ih=>simp [Bo,NoFz.eq,ih]
instance {α:Type} (m:Nat) (f:α->V) [NoFz f]:NoFz (slr true m f):=⟨λx=>by simp [V.noFz,Ba]⟩
instance {β:Type} (f:β->Lf):NoFz (rMp true f):=⟨λx=>by simp [V.noFz]⟩
instance {α:Type} (f:α->V) [NoFz f]:NoFz (rP true f):=⟨λx=>by simp [V.noFz,NoFz.eq]⟩
instance {α:Type} (f:α->V) [NoFz f]:NoFz (rO true f):=⟨λx=>by cases x<;>simp [V.noFz,NoFz.eq]⟩
instance {α:Type} (f:α->V) [NoFz f]:NoFz (rA2 f):=⟨λx=>by simp [V.noFz,Bo,NoFz.eq]⟩
instance {α:Type} (f:α->V) [NoFz f]:NoFz (rA3 f):=⟨λx=>by simp [V.noFz,Bo,NoFz.eq]⟩
section
variable {P:Program} {K:St->Prop} {σ:St} {β ρ:Type} {v:ρ} {oo:Option β} {k:β->Option ρ}
theorem CallQ.o (rep:β->V) {vs vs':List V} {f d:Nat} (e:vs=vs') (h:oo.bind k=some v) (hr : ∀r,oo=some r->Ret P f vs' (rep r)) (hk : ∀r,k r=some v->Bz (As d (.val (rep r)) σ) K):CallQ P f d vs [] [] K σ:=by subst e;obtain ⟨r,h1,h2⟩:=Option.bind_eq_some_iff.1 h;have h3:=hk r h2;rw [A5] at h3;refine ⟨rfl,Tri.mono (hr r h1) ?_⟩;rintro r o rfl;exact ⟨rfl,h3⟩
theorem CallQ.rd (rep:β->V) {vs vs':List V} {rs:List Nat} {f d:Nat} (e:vs=vs') (hn : ∀r,(rep r).noFz=true) (h:oo.bind k=some v) (hr : ∀r,oo=some r->Ret P f vs' (rep r)) (hk : ∀r,k r=some v->Bz (As d (.val (rep r)) σ) K):CallQ P f d vs [] rs K σ:=by subst e;obtain ⟨r,h1,h2⟩:=Option.bind_eq_some_iff.1 h;have h3:=hk r h2;rw [A5] at h3;refine ⟨rfl,Tri.mono (hr r h1) ?_⟩;rintro r' o rfl;exact ⟨by simp [Db,hn r],h3⟩
theorem CloQ.o (rep:β->V) {vs vs' cs:List V} {rs:List Nat} {f d:Nat} (e:vs++fzL cs=vs') (hn : ∀r,Db rs (rep r)=true) (h:oo.bind k=some v) (hr : ∀r,oo=some r->Ret P f vs' (rep r)) (hk : ∀r,k r=some v->Bz (As d (.val (rep r)) σ) K):CloQ P f d cs vs rs K σ:=by subst e;obtain ⟨r,h1,h2⟩:=Option.bind_eq_some_iff.1 h;have h3:=hk r h2;rw [A5] at h3;refine ⟨Tri.mono (hr r h1) ?_⟩;rintro r' o rfl;exact ⟨hn r,h3⟩
theorem CloP.o (rep:β->V) {vs vs' cs:List V} {rs:List Nat} {f d:Nat} {K:V->Prop} (e:vs++fzL cs=vs') (hn : ∀r,Db rs (rep r)=true) (h:oo.bind k=some v) (hr : ∀r,oo=some r->Ret P f vs' (rep r)) (hk : ∀r,k r=some v->K (rep r)):CloP P f d cs vs rs K:=by subst e;obtain ⟨r,h1,h2⟩:=Option.bind_eq_some_iff.1 h;exact ⟨_,Tri.mono (hr r h1) (by rintro r' _ rfl;exact ⟨rfl,hn r⟩),hk r h2⟩
theorem CallP.o (rep:β->V) {vs vs':List V} {f d:Nat} {K:V->Prop} (e:vs=vs') (h:oo.bind k=some v) (hr : ∀r,oo=some r->Ret P f vs' (rep r)) (hk : ∀r,k r=some v->K (rep r)):CallP P f d vs [] K:=by subst e;obtain ⟨r,h1,h2⟩:=Option.bind_eq_some_iff.1 h;exact ⟨_,Tri.mono (hr r h1) (by rintro r' _ rfl;exact ⟨rfl,rfl⟩),hk r h2⟩
theorem CallP.rd (rep:β->V) {vs vs':List V} {rs:List Nat} {f d:Nat} {K:V->Prop} (e:vs=vs') (hn : ∀r,(rep r).noFz=true) (h:oo.bind k=some v) (hr : ∀r,oo=some r->Ret P f vs' (rep r)) (hk : ∀r,k r=some v->K (rep r)):CallP P f d vs rs K:=by subst e;obtain ⟨r,h1,h2⟩:=Option.bind_eq_some_iff.1 h;exact ⟨_,Tri.mono (hr r h1) (by rintro r' _ rfl;exact ⟨rfl,by simp [Db,hn r]⟩),hk r h2⟩
theorem FrzQ.z {T:V} {K:V->Prop} (h:K T.fz):FrzQ T 0 K:=⟨_,Av T,h⟩
theorem FrzQ.d {T:V} {n:Nat} {K:V->Prop} (T':V) (e:T.fzAt n=T') (h:K T'):FrzQ T n K:=⟨_,e,h⟩
theorem LendP.io {γ:Type} {o:Option (β×γ)} {k:β×γ->Option ρ} (rep:β->V) (rep2:γ->V) {vs vs':List V} {rs:List Nat} {f d j:Nat} {T:V} {K:V->V->Prop} (e:vs=vs')
  (hn : ∀b,Db rs (rep b)=true) (hn2 : ∀b,Db rs (rep2 b)=true/\(rep2 b).node=true) (hu : ∀u,upd [] T u=some u) (h:o.bind k=some v) (hr : ∀x,o=some x->J7 P f vs' (rep x.1) j (rep2 x.2))
  (hk : ∀b c,k (b,c)=some v->K (rep b) (rep2 c)):LendP P f d vs rs j [] T K:=by
 subst e;obtain ⟨⟨b,c⟩,h1,h2⟩:=Option.bind_eq_some_iff.1 h;exact ⟨_,_,_,hr _ h1,⟨hn b,(hn2 c).1,(hn2 c).2,hu _⟩,hk b c h2⟩
theorem CallQ.io {γ:Type} {o:Option (β×γ)} {k:β×γ->Option ρ} (rep:β->V) (rep2:γ->V) {vs vs':List V} {rs:List Nat} {f d j r:Nat} {p:List Nat} {T:V} (e:vs=vs') (hroots:rs.contains r=false)
  (hn : ∀b,Db rs (rep b)=true) (hn2 : ∀b,Db rs (rep2 b)=true/\(rep2 b).node=true) (hT:look σ r = .val T) (h:o.bind k=some v) (hr : ∀x,o=some x->J7 P f vs' (rep x.1) j (rep2 x.2))
  (hk : ∀b c,k (b,c)=some v->M3 p T (rep2 c) λT'=>Bz (As d (.val (rep b)) (Hx r T' (p.length+1) σ)) K):CallQ P f d vs [(j,r,p)] rs K σ:=by
 subst e;obtain ⟨⟨b,c⟩,h1,h2⟩:=Option.bind_eq_some_iff.1 h;obtain ⟨T',h3,h4⟩:=Fk (hk b c h2);rw [A5] at h4;refine ⟨by simp only [Ig,hroots];rfl,Tri.mono (hr _ h1) ?_⟩;rintro res outs ⟨rfl,ho⟩;refine ⟨hn b,?_⟩;rw [ho,hT];exact ⟨(hn2 c).1,by rw [h3];show K (As d _ (Hx r T' (p.length+L7 (rep2 c)) σ));rw [Uw (hn2 c).2];exact h4⟩
theorem CallQ.give (rep:β->V) {vs vs':List V} {rs:List Nat} {f d j r:Nat} {p:List Nat} {T:V} (e:vs=vs') (hroots:rs.contains r=false)
  (hn : ∀b,Db rs (rep b)=true) (hT:look σ r = .val T) (h:oo.bind k=some v) (hr : ∀x,oo=some x->J7 P f vs' (rep x) j .dead)
  (hk : ∀b,k b=some v->M3 p T .dead λT'=>Bz (As d (.val (rep b)) (Hx r T' p.length σ)) K):CallQ P f d vs [(j,r,p)] rs K σ:=by
 subst e;obtain ⟨b,h1,h2⟩:=Option.bind_eq_some_iff.1 h;obtain ⟨T',h3,h4⟩:=Fk (hk b h2);rw [A5] at h4;refine ⟨by simp only [Ig,hroots];rfl,Tri.mono (hr _ h1) ?_⟩;rintro res outs ⟨rfl,ho⟩;refine ⟨hn b,?_⟩;rw [ho,hT];exact ⟨by cases rs<;>rfl,by rw [h3];exact h4⟩
theorem LendQ.io {γ:Type} {o:Option (β×γ)} {k:β×γ->Option ρ} (rep:β->V) (rep2:γ->V) (cs:γ->List V) (fld:γ->V) {g:Option Nat} {bs:List A} {vs vs':List V} {rs:List Nat} {f d j r:Nat} {p:List Nat} {T:V}
  (e:Ava 0 bs.length g vs=vs') (hc : ∀c,rep2 c=A2a g (cs c)) (hf : ∀c,(cs c)[j]? = some (fld c)) (hroots:rs.contains r=false)
  (hn : ∀b,Db rs (rep b)=true) (hn2 : ∀b,Db rs (fld b)=true/\(fld b).node=true) (hT:look σ r = .val T) (h:o.bind k=some v) (hr : ∀x,o=some x->J7 P f vs' (rep x.1) 0 (rep2 x.2))
  (hk : ∀b c,k (b,c)=some v->M3 p T (fld c) λT'=>Bz (As d (.val (rep b)) (Hx r T' (p.length+1) σ)) K):LendQ P f d 0 g bs vs [(j,r,p)] rs K σ:=by
 subst e;obtain ⟨⟨b,c⟩,h1,h2⟩:=Option.bind_eq_some_iff.1 h;obtain ⟨T',h3,h4⟩:=Fk (hk b c h2);rw [A5] at h4;refine ⟨by simp only [Ig,hroots];rfl,Tri.mono (hr _ h1) ?_⟩;rintro res outs ⟨rfl,ho⟩;cases outs with
 | nil=>cases ho
 | cons x o=>
   simp only [List.getElem?_cons_zero,Option.some.injEq] at ho;subst ho;have hj:(cs c++o)[j]? = some (fld c):=by have hlt:=(List.getElem?_eq_some_iff.1 (hf c)).1;rw [List.getElem?_append_left hlt];exact hf c
   show S4 0 g _ _ (rep2 c::o);rw [hc c];simp only [S4,List.drop_zero,A4z];refine ⟨hn b,?_⟩;simp only [List.take_zero,List.nil_append];rw [hj,hT];exact ⟨(hn2 c).1,by rw [h3];show K (As d _ (Hx r T' (p.length+L7 (fld c)) σ));rw [Uw (hn2 c).2];exact h4⟩
theorem A15 {r c:Nat} {p:List Nat} {u:V} {K:A->Prop} (h:u.hasOwn=true) (hk:K (.ref r (p++[c]))):S6 (mkA false (Iu r p c [u])) K:=by
 have e:mkA false (Iu r p c [u]) = .ref r (p++[c]):=by simp only [mkA,Iu,A0g,h,if_true,Bool.false_eq_true,if_false]
 rw [e];exact hk
instance inhSum {α δ:Type} [Inhabited α]:Inhabited (α ⊕ δ):=⟨.inl default⟩
theorem RdL.clo_of {w O tv f cs} {xs vs fp} {n:Nat} (h:RdL w O xs vs fp) (hn:xs[n]? = some (.clov tv f cs)):RdL w O (xs.set n (.clo f cs)) vs fp:=by
 obtain ⟨l,r,vl,x,vr,fl,fu,fr,rfl,rfl,rfl,hl,_,r1,r2,r3⟩:=h.at hn;have e:(l++V.clov tv f cs::r).set n (.clo f cs)=l++V.clo f cs::r:=by subst hl;simp
 rw [e];obtain ⟨us,rfl,s⟩:=A00 r2;have r4:RdL w O [.clo f cs] [.func (.func f) #[] us.toArray] fu:=by simpa using RdL.grp (.clo f cs us) s .nil
 exact r1.append (by simpa using r4.append r3)
theorem RdL.clov_of {w O f cs} {pre post:List V} {vs fp} (h:RdL w O (pre ++ .clo f cs::post) vs fp) : ∃tv,RdL w O (pre ++ .clov tv f cs::post) vs fp:=by
 obtain ⟨l,r,vl,x,vr,fl,fu,fr,e,rfl,rfl,hl,_,r1,r2,r3⟩:=h.at (c:=pre.length) (u:= .clo f cs) (by simp);obtain ⟨rfl,e3⟩:=List.append_inj e hl.symm;cases e3;obtain ⟨us,rfl,s⟩:=Bai r2;have r4:RdL w O [.clov (.func (.func f) #[] us.toArray) f cs] [.func (.func f) #[] us.toArray] fu:=by simpa using RdL.grp (.clov _ f cs us rfl) s .nil
 exact ⟨_,r1.append (by simpa using r4.append r3)⟩
theorem Tri.detok {P:Program} {f f0:Nat} {cs0 pre post:List V} {R':V->List V->Prop}
  (h : ∀tv,Tri P f (pre ++ .clov tv f0 cs0::post) λres outs => ∃cs,outs[pre.length]? = some (.clov tv f0 cs)/\R' res (outs.set pre.length (.clo f0 cs))):Tri P f (pre ++ .clo f0 cs0::post) R':=by
 intro w O vals fp h1 h2;obtain ⟨tv,h3⟩:=h1.clov_of;obtain ⟨h4,h5⟩:=h tv w O vals fp h3 h2;refine ⟨h4,h5.mono ?_⟩;rintro e w' ⟨res,outs,rv,O',fpr,fpo,⟨cs,ho,hR⟩,he,r1,ro,hnd,hm⟩;exact ⟨res,_,rv,O',fpr,fpo,hR,he,r1,ro.clo_of ho,hnd,hm⟩
theorem LendQ.ioc {γ:Type} {o:Option (β×γ)} {k:β×γ->Option ρ} (n:Nat) (rep:β->V) (rep2:Value->γ->V) {f0:Nat} {bs:List A} {vs:List V} {vs':Value->List V} {rs:List Nat} {f d j r:Nat} {p:List Nat} {T:V}
  (e : ∀tv,vs.take n++(.clov tv f0 ((vs.drop n).take bs.length)::(vs.drop n).drop bs.length)=vs' tv) (hlen:(vs.take n).length=n) (hroots:rs.contains r=false)
  (hn : ∀b,Db rs (rep b)=true) (hT:look σ r = .val T) (h:o.bind k=some v) (hr : ∀x,o=some x -> ∀tv,J7 P f (vs' tv) (rep x.1) n (rep2 tv x.2))
  (hk : ∀b c,k (b,c)=some v -> ∃cs u,(∀tv,rep2 tv c = .clov tv f0 cs)/\cs[j]? = some u/\(Db rs u=true/\u.node=true)/\M3 p T u λT'=>Bz (As d (.val (rep b)) (Hx r T' (p.length+1) σ)) K):LendQ P f d n (some f0) bs vs [(n+j,r,p)] rs K σ:=by
 obtain ⟨⟨b,c⟩,h1,h2⟩:=Option.bind_eq_some_iff.1 h;obtain ⟨cs,u,hc,hu,hu2,hk2⟩:=hk b c h2;obtain ⟨T',h3,h4⟩:=Fk hk2;rw [A5] at h4;refine ⟨by simp only [Ig,hroots];rfl,?_⟩;unfold Ava;refine Tri.detok λtv=> ?_
 rw [e tv,hlen];refine Tri.mono (hr _ h1 tv) ?_;rintro res outs0 ⟨rfl,ho0⟩;refine ⟨cs,by rw [ho0,hc],?_⟩;have hlt0:=(List.getElem?_eq_some_iff.1 ho0).1;generalize houts:outs0.set n (.clo f0 cs)=outs;have ho:outs[n]? = some (.clo f0 cs):=by rw [<-houts];simp [hlt0]
 have hlt:=(List.getElem?_eq_some_iff.1 ho).1;have hdrop:outs.drop n=A2a (some f0) cs::outs.drop (n+1):=by rw [List.drop_eq_getElem_cons hlt,(List.getElem?_eq_some_iff.1 ho).2];rfl
 have htl:(outs.take n).length=n:=by rw [List.length_take];omega
 have hg:(outs.take n++(cs++outs.drop (n+1)))[n+j]? = some u:=by rw [List.getElem?_append_right (by omega),htl,show n+j-n=j by omega,List.getElem?_append_left (List.getElem?_eq_some_iff.1 hu).1];exact hu
 unfold S4;rw [hdrop];simp only [A4z];show Ev d [(n+j,r,p)] rs K σ (rep b) (outs.take n++(cs++outs.drop (n+1)));refine ⟨hn b,?_⟩;rw [hg,hT];exact ⟨hu2.1,by rw [h3];show K (As d _ (Hx r T' (p.length+L7 u) σ));rw [Uw hu2.2];exact h4⟩
theorem CloV.o {oo:Option β} {k:β->Option ρ} (rep:β->V) {u:V} {vs vs':List V} {rs:List Nat} {d:Nat} {K:St->Prop} (e:vs=vs') (hn : ∀r,Db rs (rep r)=true) (h:oo.bind k=some v)
  (hr : ∀r,oo=some r -> ∃f cs,u = .fclo f cs/\Ret P f (vs'++fzL cs) (rep r)) (hk : ∀r,k r=some v->Bz (As d (.val (rep r)) σ) K):CloV P d u vs rs K σ:=by
 subst e;obtain ⟨r,h1,h2⟩:=Option.bind_eq_some_iff.1 h;obtain ⟨f,cs,hu,ht⟩:=hr r h1;have h3:=hk r h2;rw [A5] at h3;exact ⟨f,cs,.inr hu,Tri.mono ht (by rintro r' _ rfl;exact ⟨hn r,h3⟩)⟩
def Bff (P:Program) (vs:List V) (u r u':V):Prop:=
 ∃(tv:Value) (f:Nat) (pre post:List V) (T T':V),u = .clov tv f (pre++T::post)/\u' = .clov tv f (pre++T'::post)/\Bf pre=false/\Bf post=false/\(T.hasOwn=true/\T.node=true)/\(T'.node=true/\T'.noFz=true) /\
   J7 P f (vs++(fzL pre++T::fzL post)) r (vs.length+pre.length) T'
theorem Adu (r:Nat) (p:List Nat) : ∀(c:Nat) (ks:List V),Bf ks=false->Iu r p c ks=ks.map .val
 | _,[],_=>rfl
 | c,k::ks,h=>by simp only [Bf,Bool.or_eq_false_iff] at h;simp only [Iu,A0g,h.1,Bool.false_eq_true,if_false,List.map_cons,Adu r p (c+1) ks h.2]
theorem Ah4 (r:Nat) (p:List Nat) : ∀(c:Nat) (ks ls:List V),Iu r p c (ks++ls)=Iu r p c ks++Iu r p (c+ks.length) ls
 | c,[],ls=>by simp [Iu]
 | c,k::ks,ls=>by simp only [List.cons_append,Iu,Ah4 r p (c+1) ks ls,List.length_cons,show c+1+ks.length=c+(ks.length+1) by omega]
theorem Aqy : ∀ {ms:List Bool} {as:List A},(∀i,i<as.length->ms[i]? = some true)->Z4 ms as=as.map (·,true)
 | [],[],_=>rfl
 | _::_,[],_=>rfl
 | [],a::as,h=>by have:=h 0 (by simp);simp at this
 | m::ms,a::as,h=>by
   have h0:=h 0 (by simp);simp only [List.getElem?_cons_zero,Option.some.injEq] at h0;subst h0;have:=Aqy (ms:=ms) (as:=as) λi hi=>by simpa using h (i+1) (by simp;omega)
   simp [Z4,this]
theorem Amh {σ:St} : ∀(cs:List V) (k:Nat),C1 σ ((cs.map A.val).map (·,true)) k=some (fzL cs,[],[]):=by
 intro cs
 induction cs with
 | nil=>intro k;rfl
 | cons c r ih=>intro k;simp only [List.map_cons,C1,ih,Ns,fzL,A.roots,P5];rfl
theorem Avn {σ:St} {bs:List (A×Bool)} {us:List V} {ls2:List (Nat×Nat×List Nat)} : ∀ {as:List (A×Bool)} {k:Nat} {vs rs},C1 σ as k=some (vs,[],rs)->C1 σ bs (k+as.length)=some (us,ls2,[]) ->
  C1 σ (as++bs) k=some (vs++us,ls2,rs):=by
 intro as
 induction as with
 | nil=>intro k vs rs h hb;simp [C1] at h;obtain ⟨rfl,rfl⟩:=h;simpa using hb
 | cons e rest ih=>
   intro k vs rs h hb;obtain ⟨a,io⟩:=e;simp only [C1] at h;split at h
   ·cases h
   ·rename_i vs' ls' rs' h1;split at h
    ·cases h
    ·rename_i hl;split at h
     ·rename_i v hv;cases h;simp only [List.cons_append,C1];rw [ih h1 (by simpa [Nat.add_assoc,Nat.add_comm 1] using hb)];simp [hl,hv]
     ·cases h
theorem A1k : ∀(p:List Nat) {T u t u':V} {i:Nat},sub p T=some u->u.kids[i]?.isSome=true->u.setKids i [t]=some u'->upd (p++[i]) T t=upd p T u'
 | [],T,u,t,u',i,hs,hi,hu=>by simp only [sub,Option.some.injEq] at hs;subst hs;obtain ⟨k,hk⟩:=Option.isSome_iff_exists.1 hi;simp only [List.nil_append,upd,hk];exact hu
 | c::p,T,u,t,u',i,hs,hi,hu=>by
   simp only [sub] at hs;split at hs
   ·split at hs
    ·rename_i k hk;simp only [List.cons_append,upd,hk,A1k p hs hi hu]
    ·cases hs
   ·cases hs
theorem CloN.o {γ:Type} {o:Option (β×γ)} {k:β×γ->Option ρ} (rep:β->V) (uc:γ->V) {as:List (A×Bool)} {vs vs':List V} {rs:List Nat} {ms:List Bool} {u T0:V} {r d:Nat} {p:List Nat} {K:St->Prop}
  (e:vs=vs') (ha:C1 σ as 0=some (vs,[],rs)) (hg0:as.all (λe => !e.2)=true) (hm : ∀i,i<9->ms[i]? = some true) (hroots:rs.contains r=false) (hn : ∀b,Db rs (rep b)=true) (hL:look σ r = .val T0) (hsub:sub p T0=some u)
  (h:o.bind k=some v) (hr : ∀x,o=some x->Bff P vs' u (rep x.1) (uc x.2) /\ ∀tv f cs,u = .clov tv f cs->cs.length<=9)
  (hk : ∀b c,k (b,c)=some v->M3 p T0 (uc c) λT'=>Bz (As d (.val (rep b)) (Hx r T' (p.length+2) σ)) K):CloN P d as ms u r p K σ:=by
 subst e;obtain ⟨⟨b,c⟩,h1,h2⟩:=Option.bind_eq_some_iff.1 h;obtain ⟨⟨tv,f,pre,post,T,T',rfl,hu',hpre,hpost,⟨hT1,hT2⟩,⟨hT3,hT4⟩,hret⟩,hlen⟩:=hr _ h1;have h9:=hlen _ _ _ rfl;have hg : ∀e∈as,e.2=false:=λe he=>by simpa using List.all_eq_true.1 hg0 e he
 obtain ⟨Tn,h3,h4⟩:=Fk (hk b c h2);rw [A5] at h4;refine ⟨tv,f,_,rfl,?_⟩;have hcel:Iu r p 0 (pre++T::post)=pre.map .val++(.ref r (p++[pre.length])::post.map .val):=by rw [Ah4,Adu r p 0 pre hpre];simp only [Nat.zero_add,Iu,A0g,hT1,if_true];rw [Adu r p _ post hpost]
 have hmask:Z4 ms (Iu r p 0 (pre++T::post))=(Iu r p 0 (pre++T::post)).map (·,true):=Aqy λi hi=>hm i (by
  have:(Iu r p 0 (pre++T::post)).length=(pre++T::post).length:=by rw [hcel];simp
  omega)
 rw [hmask,hcel];have hlook:Bp σ r (p++[pre.length])=some T:=by have:sub (p++[pre.length]) T0=some T:=A0q p hsub rfl (by simp [V.kids]);simp [Bp,hL,this]
 have hlent:P5 σ (.ref r (p++[pre.length]))=some (r,p++[pre.length],T):=by simp [P5,hlook,hT2]
 have hargs:C1 σ (as++(pre.map A.val++(A.ref r (p++[pre.length])::post.map A.val)).map (·,true)) 0=some (vs++(fzL pre++T::fzL post),[(vs.length+pre.length,r,p++[pre.length])],rs):=by have hal:=Aih ha;refine Avn ha ?_;rw [List.map_append];refine Avn (rs:=[]) (vs:=fzL pre) (Amh pre _) ?_;simp only [List.map_cons,C1];rw [Amh post];simp [hlent,hal]
 have hgiven:I6 (as++(pre.map A.val++(A.ref r (p++[pre.length])::post.map A.val)).map (·,true))=none:=by
  have key : ∀l:List (A×Bool),(∀e∈l,e.2=false\/(∃v,e.1 = .val v) \/ ∃r p,e.1 = .ref r p)->I6 l=none:=by
   intro l
   induction l with
   | nil=>intro _;rfl
   | cons e l ih=>
     intro hl;have h2:=ih λe he=>hl e (by simp [he])
     have h1:=hl e (by simp);obtain ⟨a,io⟩:=e;unfold I6;split
     ·rename_i e2;cases e2
     ·rename_i e2;cases e2;simp at h1
     ·rename_i e2;cases e2;simp at h1
     ·rename_i e2;cases e2;rw [h2]
  refine key _ λe he=> ?_
  rcases List.mem_append.1 he with he | he
  ·exact .inl (hg e he)
  ·obtain ⟨a,ha',rfl⟩:=List.mem_map.1 he;rcases List.mem_append.1 ha' with hh | hh
   ·obtain ⟨v,_,rfl⟩:=List.mem_map.1 hh;exact .inr (.inl ⟨v,rfl⟩)
   ·rcases List.mem_cons.1 hh with rfl | hh
    ·exact .inr (.inr ⟨_,_,rfl⟩)
    ·obtain ⟨v,_,rfl⟩:=List.mem_map.1 hh;exact .inr (.inl ⟨v,rfl⟩)
 unfold Ih;rw [hgiven];simp only [hargs];refine ⟨by simp only [Ig,hroots];rfl,Tri.mono hret ?_⟩;rintro res outs ⟨rfl,ho⟩;refine ⟨hn b,?_⟩;rw [ho,hL];refine ⟨by simp [Db,hT4],?_⟩;have hset:(V.clov tv f (pre++T::post)).setKids pre.length [T']=some (uc c):=by rw [hu'];simp only [V.setKids];rw [if_pos (by simp)];congr 2;exact Agg pre [T] post [T'] rfl
 rw [A1k p hsub (by simp [V.kids]) hset,h3];show K (As d _ (Hx r Tn ((p++[pre.length]).length+L7 T') σ));rw [Uw hT3];simpa using h4
end
abbrev Tgt:=Ex×List Nat×St
def atQ (t:Tgt):Ex->St->Prop:=λex σ=>ex=t.1/\restrict t.2.1 σ=t.2.2
def Cd {σ' τ:Type} (ks:List Nat) (st:σ'->St) (tg:τ->Tgt):σ' ⊕ τ->Ex->St->Prop
 | .inl s=>atQ (.normal,ks,st s)
 | .inr t=>atQ (tg t)
def Ex.isNormal:Ex->Bool
 | .normal=>true
 | .exit _=>false
 | .ret=>false
theorem LoopQ.o {σ' τ ρ:Type} {body:σ'->Option (σ' ⊕ τ)} {k:τ->Option ρ} {v:ρ} {s0:σ'} {P:Program} {c:ACode} {Q:Ex->St->Prop} {σ:St} (ks:List Nat) (st:σ'->St) (tg:τ->Tgt)
  (h:(Ak body s0).bind k=some v) (hb : ∀s o,body s=some o->vc P c (Cd ks st tg o) (st s)) (h0:restrict ks σ=st s0) (hn : ∀t,(tg t).1.isNormal=false) (ha : ∀t,k t=some v->Q (tg t).1 (tg t).2.2) :
  LoopQ P c Q σ:=by
 obtain ⟨t,h1,h2⟩:=Option.bind_eq_some_iff.1 h;obtain ⟨n,hit⟩:=Q4.1 h1;refine ⟨ks,n,?_⟩;rw [h0];clear h0 h h1
 induction n generalizing s0 with
 | zero=>cases hit
 | succ n ih=>
   simp only [Am3] at hit;split at hit
   ·cases hit
   ·rename_i s' e;refine U4 ?_ (Ad0 (hb _ _ e));rintro ex τ' ⟨h3,h4⟩;subst h3;show Afa (awp P c) ks (less Q) n (restrict ks τ');rw [h4];exact ih hit
   ·rename_i t' e;cases hit;refine U4 ?_ (Ad0 (hb _ _ e));rintro ex τ' ⟨h3,h4⟩;have hne:=hn t;rw [<-h3] at hne;have hq:=ha t h2;rw [<-h4,<-h3] at hq;cases ex with
    | normal=>cases hne
    | exit i=>exact .inr ⟨_,hq⟩
    | ret=>exact .inr ⟨_,hq⟩
theorem CutQ.o {τ ρ:Type} {e:Option τ} {k:τ->Option ρ} {v:ρ} {P:Program} {c:ACode} {Q:Ex->St->Prop} {σ:St} (tg:τ->Tgt)
  (h:e.bind k=some v) (hb : ∀t,e=some t->vc P c (atQ (tg t)) σ) (ha : ∀t,k t=some v->Q (tg t).1 (tg t).2.2):CutQ P c Q σ:=by
 obtain ⟨t,h1,h2⟩:=Option.bind_eq_some_iff.1 h;refine ⟨?_⟩;show awp P c (less Q) σ;refine U4 ?_ (Ad0 (hb t h1));rintro ex τ' ⟨h3,h4⟩;have hq:=ha t h2;rw [<-h4,<-h3] at hq;exact .inr ⟨_,hq⟩
end Go.Proofs.YtmkgjnphianalaaGreat.Ax
