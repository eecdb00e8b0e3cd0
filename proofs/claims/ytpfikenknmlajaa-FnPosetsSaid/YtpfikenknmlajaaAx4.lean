/-
 Part of the proof; see the last text of the claim.
-/
import Derived.Test.YtpfikenknmlajaaAx3
namespace Go.Proofs.Ytpfikenknmlajaa.Ax
open Go
structure Br (b:Bool) (X Y:Prop):Prop where
 t:b=true→X
 f:b=false→Y
structure Ask (p X:Prop):Prop where
 p:p
 x:X
structure Elem (xs:List V) (j:Nat) (K:V→Prop):Prop where
 h:K (xs.getD j .dead)
structure Cells (xs:List V) (c n:Nat) (K:List V→Prop):Prop where
 h : ∃us,c+n≤xs.length∧(xs.drop c).take n=us∧K us
structure Kid (T:V) (c:Nat) (K:V→Prop):Prop where
 h : ∃k,T.stepOk=true∧T.kids[c]? = some k∧K k
structure SetKids (x:V) (c:Nat) (us:List V) (K:V→Prop):Prop where
 h : ∃x',x.setKids c us=some x'∧K x'
structure MkQ (d n:Nat) (z:V) (K:List V→Prop):Prop where
 h:K (List.replicate n z)
structure BslQ (d m:Nat) (us:List V) (K:List V→Prop):Prop where
 h:Sg m us=true∧K us
structure AppQ (d:Nat) (xs ys:List V) (K:List V→Prop):Prop where
 h:D5 (Bq ys)=true∧xs.length+ys.length≤LIM∧K (xs++ys)
structure NoOwn (ys:List V) (X Y:Prop):Prop where
 h:(Bc (Bq ys)=false∧X)∨(Bc (Bq ys)=true∧Y)
structure SlcQ (xs:List V) (l h:Int) (K:List V→Prop):Prop where
 h:0≤l∧l≤h∧h≤(xs.length:Int)∧K ((xs.drop l.toNat).take (h.toNat-l.toNat))
structure Idx (j:Int) (lo n:Nat) (K:Int→Prop):Prop where
 h:lo≤j→j<n→K j
def Ak:Nat→Nat→Nat
 | x,0=>x*0
 | x,1=>x
 | x,m+2=>x*(m+2)
theorem Aa (x:Nat):Ak x 1=x:=rfl
theorem Adf (x m:Nat):Ak x m=x*m:=by
 unfold Ak;split<;>simp
def Il (a b:Int):Int:=IntKind.i64.wrap (a*2^(min b.toNat IntKind.i64.bits))
def Adn (a b:Int):Int:=a.fdiv (2^(min b.toNat IntKind.i64.bits))
def Ahh (a b:Int):Int:=IntKind.i64.wrap (BitVec.ofInt IntKind.i64.bits a &&& BitVec.ofInt IntKind.i64.bits b).toNat
def orI (a b:Int):Int:=IntKind.i64.wrap (BitVec.ofInt IntKind.i64.bits a ||| BitVec.ofInt IntKind.i64.bits b).toNat
def A78 (a b:Int):Int:=IntKind.i64.wrap (BitVec.ofInt IntKind.i64.bits a ^^^ BitVec.ofInt IntKind.i64.bits b).toNat
def A3c (a b:Int):Int:=IntKind.i64.wrap (BitVec.ofInt IntKind.i64.bits a &&& ~~~BitVec.ofInt IntKind.i64.bits b).toNat
theorem Br.not {b:Bool} {X Y:Prop} (h:Br b Y X):Br (!b) X Y:=by
 cases b
 ·exact ⟨fun _=>h.f rfl,fun e=>Bool.noConfusion e⟩
 exact ⟨fun e=>Bool.noConfusion e,fun _=>h.t rfl⟩
theorem Br.beq {a b:Int} {X Y:Prop} (h1:a=b→X) (h2:a≠b→Y):Br (a==b) X Y:=⟨fun h=>h1 (by simpa using h),fun h=>h2 (by simpa using h)⟩
structure Len (xs:List V) (K:Nat→Prop):Prop where
 h:K xs.length
theorem Len.map {α:Type} {f:α→V} {xs:List α} {K:Nat→Prop} (h:K xs.length):Len (xs.map f) K:=⟨by rw [List.length_map];exact h⟩
theorem Len.app {xs ys:List V} {K:Nat→Prop} (h:K (xs.length+ys.length)):Len (xs++ys) K:=⟨by rw [List.length_append];exact h⟩
theorem Br.yes {X Y:Prop} (h:X):Br true X Y:=⟨fun _=>h,fun e=>Bool.noConfusion e⟩
theorem Br.no {X Y:Prop} (h:Y):Br false X Y:=⟨fun e=>Bool.noConfusion e,fun _=>h⟩
mutual
def Un:A→(A→Prop)→Prop
 | .top,K=>K .top
 | .val v,K=>K (.val v)
 | .ref r p,K=>K (.ref r p)
 | .addr r p c,K=>K (.addr r p c)
 | .fad cs,K=>K (.fad cs)
 | .agg as,K=>Agj as fun bs=>K (.agg bs)
 | .clo f as,K=>Agj as fun bs=>K (.clo f bs)
 | .tie b f p q,K=>Agj p fun ps=>Agj q fun qs=>K (.tie b f ps qs)
def Agj:List A→(List A→Prop)→Prop
 | [],K=>K []
 | a::r,K=>Un a fun b=>Agj r fun s=>K (b::s)
end
mutual
theorem Q1:(a:A)→(K:A→Prop)→Un a K=K a
 | .top,_=>rfl
 | .val _,_=>rfl
 | .ref _ _,_=>rfl
 | .addr _ _ _,_=>rfl
 | .fad _,_=>rfl
 | .agg as,K=>by simp only [Un];rw [Ye as]
 | .clo f as,K=>by simp only [Un];rw [Ye as]
 | .tie b f p q,K=>by simp only [Un];rw [Ye p,Ye q]
theorem Ye:(as:List A)→(K:List A→Prop)→Agj as K=K as
 | [],_=>rfl
 | a::r,K=>by simp only [Agj];rw [Q1 a,Ye r]
end
def B6:St→(St→Prop)→Prop
 | [],K=>K []
 | (k,a)::r,K=>Un a fun b=>B6 r fun s=>K ((k,b)::s)
theorem Av : ∀(σ:St) (K:St→Prop),B6 σ K=K σ:=by
 intro σ
 induction σ with
 | nil=>intro K;rfl
 | cons e r ih=>intro K;obtain ⟨k,a⟩:=e;simp only [B6];rw [Q1,ih]
def Aof (o:Option St) (K:St→Prop):Prop:=match o with
 | some σ=>B6 σ K
 | none=>False
theorem Ab9 {o:Option St} {K:St→Prop} (h:Aof o K) : ∃σ,o=some σ∧K σ:=by
 unfold Aof at h
 split at h
 ·rw [Av] at h;exact ⟨_,rfl,h⟩
 exact h.elim
def P2 (s:Nat) (b:Bool):St→St
 | []=>[]
 | (k,a)::r=>match Nat.beq k s with
   | true=>(k,.val (.bool b))::r
   | false=>(k,a)::P2 s b r
theorem Tk {s:Nat} {b:Bool} : ∀ {σ:St},look σ s = .val (.bool b)→P2 s b σ=σ:=by
 intro σ
 induction σ with
 | nil=>intro _;rfl
 | cons e r ih=>
   obtain ⟨k,a⟩:=e
   intro h
   simp only [look] at h
   simp only [P2]
   by_cases hk:k=s
   ·rw [if_pos hk] at h
    subst hk
    rw [show Nat.beq k k=true by simp,h]
   ·rw [if_neg hk] at h
    rw [show Nat.beq k s=false by
     cases hb:Nat.beq k s with
     | false=>rfl
     | true=>exact absurd (Nat.eq_of_beq_eq_true hb) hk]
    simp only [ih h]
def A7q (x:X) (b:Bool) (σ:St):St:=match x with
 | .t s=>P2 s b σ
 | .c _=>σ
def Ar6:List Nat→V→(V→Prop)→Prop
 | [],T,K=>K T
 | c::p,T,K=>Kid T c fun k=>Ar6 p k K
theorem Aas : ∀ {p:List Nat} {T:V} {K:V→Prop},Ar6 p T K → ∃u,sub p T=some u∧K u:=by
 intro p
 induction p with
 | nil=>intro T K h;exact ⟨T,rfl,h⟩
 | cons c p ih=>
   intro T K h
   obtain ⟨k,h1,h2,h3⟩:=h.h
   obtain ⟨u,h4,h5⟩:=ih h3
   exact ⟨u,by simp only [sub,h1,h2,if_true,h4],h5⟩
def Ac0 (T:A) (p:List Nat) (K:V→Prop):Prop:=match T with
 | .val V=>Ar6 p V K
 | _=>False
def My:List Nat→V→V→(V→Prop)→Prop
 | [],_,u,K=>K u
 | c::p,T,u,K=>Kid T c fun k=>My p k u fun k'=>SetKids T c [k'] K
theorem Ge : ∀ {p:List Nat} {T u:V} {K:V→Prop},My p T u K → ∃T',upd p T u=some T'∧K T':=by
 intro p
 induction p with
 | nil=>intro T u K h;exact ⟨u,rfl,h⟩
 | cons c p ih=>
   intro T u K h
   obtain ⟨k,h1,h2,h3⟩:=h.h
   obtain ⟨k',h4,h5⟩:=ih h3
   obtain ⟨T',h6,h7⟩:=h5.h
   exact ⟨T',by simp only [upd,h2,h4,h6],h7⟩
theorem I9 {σ:St} {r:Nat} {p:List Nat} {K:V→Prop} (h:Ac0 (look σ r) p K) : ∃T u,look σ r = .val T∧sub p T=some u∧B0 σ r p=some u∧K u:=by
 unfold Ac0 at h
 split at h
 ·rename_i T hT
  obtain ⟨u,h1,h2⟩:=Aas h
  exact ⟨T,u,hT,h1,by simp [B0,hT,h1],h2⟩
 exact h.elim
def Akf (a b:A) (K:Int→Int→Prop) (E:Prop):Prop:=match a,b with
 | .val (.int .i64 x),.val (.int .i64 y)=>K x y
 | _,_=>E
abbrev InI (n:Int):Prop:= -9223372036854775808≤n∧n≤9223372036854775807
theorem A2d {a b:A} {K:Int→Int→Prop} {E:Prop} (h:Akf a b K E):(∃x y,a = .val (.int .i64 x)∧b = .val (.int .i64 y)∧K x y)∨E:=by
 unfold Akf at h
 split at h
 ·exact .inl ⟨_,_,rfl,rfl,h⟩
 exact .inr h
def Jj (o:Option (Nat×A)) (K:Nat→A→Prop):Prop:=match o with
 | some (d,a)=>Un a fun b=>K d b
 | none=>False
theorem K4 {o:Option (Nat×A)} {K:Nat→A→Prop} (h:Jj o K) : ∃d a,o=some (d,a)∧K d a:=by
 unfold Jj at h
 split at h
 ·rw [Q1] at h;exact ⟨_,_,rfl,h⟩
 exact h.elim
def A9d (d:Nat) (xs:List V) (K:Nat→A→Prop):Prop:=Len xs fun n=>K d (.val (.int .i64 n))
def A68 (d m m':Nat) (xs:List V) (j:Int) (own:Option (Nat×List Nat)) (K:Nat→A→Prop):Prop:=match Nat.beq m' m with
 | true=>Len xs fun n=>Ask (0≤j∧j<n) (match own with
   | none=>Elem xs j.toNat fun u=>K d (.fad u.cells)
   | some (r,p)=>K d (.addr r p (Ak j.toNat m)))
 | false=>False
structure LkQ (es:List (ByteArray×Lf)) (s:ByteArray) (z:Lf) (ok:Bool) (K:V→Prop):Prop where
 h:K (Aw1 es s z ok)
structure MsQ (es:List (ByteArray×Lf)) (s:ByteArray) (x:Lf) (K:List (ByteArray×Lf)→Prop):Prop where
 h:K (Wp es s x)
structure BsQ (xs:List V) (K:ByteArray→Prop):Prop where
 h : ∃ns,Sr xs=some ns∧K (Ano ns)
def Az2 (d m:Nat) (xs:List V) (K:Nat→A→Prop):Prop:=match Nat.beq m 1 with
 | true=>BsQ xs fun s=>K d (.val (.str s))
 | false=>False
structure FrzQ (T:V) (n:Nat) (K:V→Prop):Prop where
 h : ∃T',T.fzAt n=T'∧K T'
def Ak2 (o:AOp) (σ:St) (K:Nat→A→Prop):Prop:=match o with
 | .mlk d x k z ok=>match Ah σ x,Ah σ k with
   | .val (.mp o es),.val (.str s)=>(match o with
     | false=>LkQ es s z ok fun v=>K d (.val v)
     | true=>False)
   | .ref r p,.val (.str s)=>Ac0 (look σ r) p fun u=>match u with
     | .mp _ es=>LkQ es s z ok fun v=>K d (.val v)
     | _=>False
   | _,_=>False
 | .bstr d x=>match Ah σ x with
   | .val (.sl o m xs)=>(match o with
     | false=>Az2 d m xs K
     | true=>False)
   | .ref r p=>Ac0 (look σ r) p fun u=>match u with
     | .sl _ m xs=>Az2 d m xs K
     | _=>False
   | _=>False
 | .bin d op x y=>match op with
   | .add=>Akf (Ah σ x) (Ah σ y) (fun a b=>Ask (InI (a+b)) (K d (.val (.int .i64 (a+b))))) (Jj (qR o σ) K)
   | .sub=>Akf (Ah σ x) (Ah σ y) (fun a b=>Ask (InI (a-b)) (K d (.val (.int .i64 (a-b))))) (Jj (qR o σ) K)
   | .mul=>Akf (Ah σ x) (Ah σ y) (fun a b=>Ask (InI (a*b)) (K d (.val (.int .i64 (a*b))))) (Jj (qR o σ) K)
   | .quo=>Akf (Ah σ x) (Ah σ y) (fun a b=>Ask (b≠0∧InI (a.tdiv b)) (K d (.val (.int .i64 (a.tdiv b))))) (Jj (qR o σ) K)
   | .rem=>Akf (Ah σ x) (Ah σ y) (fun a b=>Ask (b≠0) (K d (.val (.int .i64 (a.tmod b))))) (Jj (qR o σ) K)
   | .shl=>Akf (Ah σ x) (Ah σ y) (fun a b=>Ask (0≤b) (K d (.val (.int .i64 (Il a b))))) (Jj (qR o σ) K)
   | .shr=>Akf (Ah σ x) (Ah σ y) (fun a b=>Ask (0≤b) (K d (.val (.int .i64 (Adn a b))))) (Jj (qR o σ) K)
   | .and=>Akf (Ah σ x) (Ah σ y) (fun a b=>K d (.val (.int .i64 (Ahh a b)))) (Jj (qR o σ) K)
   | .or=>Akf (Ah σ x) (Ah σ y) (fun a b=>K d (.val (.int .i64 (orI a b)))) (Jj (qR o σ) K)
   | .xor=>Akf (Ah σ x) (Ah σ y) (fun a b=>K d (.val (.int .i64 (A78 a b)))) (Jj (qR o σ) K)
   | .andNot=>Akf (Ah σ x) (Ah σ y) (fun a b=>K d (.val (.int .i64 (A3c a b)))) (Jj (qR o σ) K)
   | _=>Jj (qR o σ) K
 | .pick d c x y=>match Ah σ c with
   | .val (.bool b)=>Br b (Jj ((nt (Ah σ x)).map (d,·)) K) (Jj ((nt (Ah σ y)).map (d,·)) K)
   | _=>False
 | .iad d m x i=>match Ah σ x,Ah σ i with
   | .val (.sl _ m' xs),.val (.int _ j)=>A68 d m m' xs j none K
   | .ref r p,.val (.int _ j)=>Ac0 (look σ r) p fun u=>match u with
     | .sl o m' xs=>match o with
       | true=>A68 d m m' xs j (some (r,p)) K
       | false=>False
     | _=>False
   | _,_=>False
 | .aad d m n x i=>match G6 σ (Ah σ x),Ah σ i with
   | some l,.val (.int _ j)=>Ask (0≤j∧j<n) (Idx j 0 n fun j=>Un (Ajf (Ak j.toNat m) l) fun b=>K d b)
   | _,_=>False
 | .ld d n ag x=>match G6 σ (Ah σ x) with
   | some (.own r p c)=>Ac0 (look σ r) p fun u=>Cells u.kids c n fun ks=>Un (mkA ag (Aek r p c ks)) fun b=>K d b
   | _=>Jj (qR o σ) K
 | .mk d m z x=>match Ah σ x with
   | .val (.int _ n)=>Ask (0≤n∧n≤(LIM:Int)) (MkQ d n.toNat z.up fun l=>K d (.val (.sl true m l)))
   | _=>False
 | .mkc d m _ x=>match Ah σ x with
   | .val (.int _ n)=>Ask (0≤n∧n≤(LIM:Int)) (K d (.val (.sl true m [])))
   | _=>False
 | .bsl d m ps=>match Kb (ps.map (Ah σ)) with
   | some Us=>BslQ d m (upL Us) fun l=>K d (.val (.sl true m l))
   | none=>False
 | .mkr d m z x=>match Ah σ x with
   | .val (.int _ n)=>Ask (0≤n∧n≤(LIM:Int)) (MkQ d n.toNat z.up fun l=>FrzQ (.sl true m l) 0 fun T'=>K d (.val T'))
   | _=>False
 | .bslr d m ps=>match Kb (ps.map (Ah σ)) with
   | some Us=>BslQ d m (upL Us) fun l=>FrzQ (.sl true m l) 0 fun T'=>K d (.val T')
   | none=>False
 | .slc d m x lo hi=>match Ah σ x with
   | .val (.ptr o (.agg cs))=>(match o with
     | true=>False
     | false=>(match Avz m cs (lo.map (Ah σ)) (hi.map (Ah σ)) with
       | true=>K d (.val (.sl false 1 cs))
       | false=>False))
   | .val (.sl o m' xs)=>(match o with
     | true=>False
     | false=>(match Nat.beq m' m with
       | true=>(match Afs 0 (lo.map (Ah σ)) with
         | some l=>(match hi with
           | none=>Len xs fun n=>SlcQ xs l n fun ys=>K d (.val (.sl false m ys))
           | some y=>(match Atg (Ah σ y) with
             | some h=>SlcQ xs l h fun ys=>K d (.val (.sl false m ys))
             | none=>False))
         | none=>False)
       | false=>False))
   | _=>False
 | .len d x=>match Ah σ x with
   | .val (.sl _ _ xs)=>A9d d xs K
   | .ref r p=>Ac0 (look σ r) p fun u=>match u with
     | .sl _ _ xs=>A9d d xs K
     | _=>False
   | _=>Jj (qR o σ) K
 | .sidx d x i=>(match Ah σ x,Ah σ i with
   | .val (.str s),.val (.int _ j)=>Ask (0≤j∧j<(s.size:Int)) (K d (.val (.int .u8 (A0f s j))))
   | _,_=>False)
 | o=>Jj (qR o σ) K
theorem Aq7 {d m m':Nat} {xs:List V} {j:Int} {own:Option (Nat×List Nat)} {K:Nat→A→Prop} (h:A68 d m m' xs j own K):m'=m∧0≤j∧j<xs.length∧(match own with
  | none=>K d (.fad (xs.getD j.toNat .dead).cells)
  | some (r,p)=>K d (.addr r p (j.toNat*m))):=by
 unfold A68 at h
 split at h
 ·rename_i hm
  have h1:=h.h
  refine ⟨Nat.eq_of_beq_eq_true hm,h1.p.1,h1.p.2,?_⟩
  cases own with
  | none=>exact h1.x.h
  | some e=>have:=h1.x;simpa [Adf] using this
 exact h.elim
theorem Anz {d m:Nat} {xs:List V} {K:Nat→A→Prop} (h:Az2 d m xs K) : ∃ns,m=1∧Sr xs=some ns∧K d (.val (.str (Ano ns))):=by
 unfold Az2 at h
 split at h
 ·rename_i hm
  obtain ⟨ns,h1,h2⟩:=h.h
  exact ⟨ns,Nat.eq_of_beq_eq_true hm,h1,h2⟩
 exact h.elim
theorem W7 {o:AOp} {σ:St} {K:Nat→A→Prop} (h:Ak2 o σ K) : ∃d a,qR o σ=some (d,a)∧K d a:=by
 unfold Ak2 at h
 split at h
 ·rename_i d x k z ok
  split at h
  ·rename_i o es s hx hk
   split at h
   ·exact ⟨_,_,by simp [qR,hx,hk,mpA,Er,Awe],h.h⟩
   exact h.elim
  ·rename_i r p s hx hk
   obtain ⟨T,u,hT,hs,hn,hq⟩:=I9 h
   split at hq
   ·exact ⟨_,_,by simp [qR,hx,hk,mpA,hn,Er,Awe],hq.h⟩
   exact hq.elim
  exact h.elim
 ·rename_i d x
  split at h
  ·rename_i o m xs hx
   split at h
   ·obtain ⟨ns,h1,h2,h3⟩:=Anz h
    subst h1
    exact ⟨_,_,by simp [qR,hx,slA,h2],h3⟩
   exact h.elim
  ·rename_i r p hx
   obtain ⟨T,u,hT,hs,hn,hq⟩:=I9 h
   split at hq
   ·obtain ⟨ns,h1,h2,h3⟩:=Anz hq
    subst h1
    exact ⟨_,_,by simp [qR,hx,slA,hn,h2],h3⟩
   exact hq.elim
  exact h.elim
 ·rename_i d op x y
  split at h
  case h_12=>exact K4 h
  all_goals
   rcases A2d h with ⟨a,b,ha,hb,hk⟩ | h
   case inr=>exact K4 h
  ·exact ⟨_,_,by simp [qR,ha,hb,Er,V.isBool,Ve,S5 hk.p.1 hk.p.2],hk.x⟩
  ·exact ⟨_,_,by simp [qR,ha,hb,Er,V.isBool,Ve,S5 hk.p.1 hk.p.2],hk.x⟩
  ·exact ⟨_,_,by simp [qR,ha,hb,Er,V.isBool,Ve,S5 hk.p.1 hk.p.2],hk.x⟩
  ·exact ⟨_,_,by simp [qR,ha,hb,Er,V.isBool,Ve,hk.p.1,S5 hk.p.2.1 hk.p.2.2],hk.x⟩
  ·exact ⟨_,_,by simp [qR,ha,hb,Er,V.isBool,Ve,hk.p],hk.x⟩
  ·exact ⟨d,.val (.int .i64 (Il a b)),by simp [qR,ha,hb,Er,V.isBool,Ve,Int.not_lt.2 hk.p,Il],hk.x⟩
  ·exact ⟨d,.val (.int .i64 (Adn a b)),by simp [qR,ha,hb,Er,V.isBool,Ve,Int.not_lt.2 hk.p,Adn],hk.x⟩
  ·exact ⟨d,.val (.int .i64 (Ahh a b)),by simp [qR,ha,hb,Er,V.isBool,Ve,Ahh],hk⟩
  ·exact ⟨d,.val (.int .i64 (orI a b)),by simp [qR,ha,hb,Er,V.isBool,Ve,orI],hk⟩
  ·exact ⟨d,.val (.int .i64 (A78 a b)),by simp [qR,ha,hb,Er,V.isBool,Ve,A78],hk⟩
  exact ⟨d,.val (.int .i64 (A3c a b)),by simp [qR,ha,hb,Er,V.isBool,Ve,A3c],hk⟩
 ·rename_i d c x y
  split at h
  ·rename_i b hb
   cases b
   ·obtain ⟨d',a,h1,h2⟩:=K4 (h.f rfl)
    exact ⟨d',a,by simp only [qR,hb];simpa using h1,h2⟩
   obtain ⟨d',a,h1,h2⟩:=K4 (h.t rfl)
   exact ⟨d',a,by simp only [qR,hb];simpa using h1,h2⟩
  exact h.elim
 ·rename_i d m x i
  split at h
  ·rename_i hx hi
   obtain ⟨h1,h2,h3,h4⟩:=Aq7 h
   subst h1
   exact ⟨_,_,by simp only [qR,hx,hi,h2,h3,and_self,if_true],h4⟩
  ·rename_i hx hi
   obtain ⟨T,u,hT,hs,hn,hk⟩:=I9 h
   split at hk
   case h_2=>exact hk.elim
   split at hk
   case h_2=>exact hk.elim
   obtain ⟨h1,h2,h3,h4⟩:=Aq7 hk
   subst h1
   exact ⟨_,_,by simp only [qR,hx,hi,hn,h2,h3,and_self,if_true],h4⟩
  exact h.elim
 ·rename_i d m n x i
  split at h
  ·rename_i hl hi
   have h2:=h.x.h h.p.1 h.p.2
   rw [Q1,Adf] at h2
   exact ⟨_,_,by simp only [qR,hl,hi,h.p.1,h.p.2,and_self,if_true],h2⟩
  exact h.elim
 ·rename_i d n ag x
  split at h
  ·rename_i r p c hl
   obtain ⟨T,u,hT,hs,hn,hk⟩:=I9 h
   obtain ⟨ks,h1,h2,h3⟩:=hk.h
   rw [Q1] at h3
   subst h2
   exact ⟨_,_,by simp [qR,hl,Ab7,hn,h1],h3⟩
  exact K4 h
 ·rename_i d m z x
  split at h
  ·rename_i hx
   exact ⟨_,_,by simp [qR,hx,h.p.1,h.p.2],h.x.h⟩
  exact h.elim
 ·rename_i d m z x
  split at h
  ·rename_i hx
   exact ⟨_,_,by simp [qR,hx,h.p.1,h.p.2],h.x⟩
  exact h.elim
 ·rename_i d m ps
  split at h
  ·rename_i Us hU
   exact ⟨_,_,by simp [qR,hU,h.h.1],h.h.2⟩
  exact h.elim
 ·rename_i d m z x
  split at h
  ·rename_i hx
   obtain ⟨T',e1,h1⟩:=h.x.h.h
   rw [Gp] at e1
   subst e1
   exact ⟨_,_,by simp [qR,hx,h.p.1,h.p.2],h1⟩
  exact h.elim
 ·rename_i d m ps
  split at h
  ·rename_i Us hU
   obtain ⟨T',e1,h1⟩:=h.h.2.h
   rw [Gp] at e1
   subst e1
   exact ⟨_,_,by simp [qR,hU,h.h.1],h1⟩
  exact h.elim
 ·rename_i d m x lo hi
  split at h
  case h_3=>exact h.elim
  case h_1=>
   rename_i o cs hx
   split at h
   ·exact h.elim
   ·split at h
    case h_2=>exact h.elim
    rename_i hao
    exact ⟨_,_,by simp only [qR,Am0,hx];rw [if_pos hao];rfl,h⟩
  rename_i o m' xs hx
  split at h
  ·exact h.elim
  split at h
  case h_2=>exact h.elim
  rename_i hm
  have hm':=Nat.eq_of_beq_eq_true hm
  split at h
  case h_2=>exact h.elim
  rename_i l hl
  split at h
  ·obtain ⟨h0,h1,h2,h3⟩:=h.h.h
   have e2:Afs (xs.length:Int) ((none:Option X).map (Ah σ))=some (xs.length:Int):=rfl
   exact ⟨_,_,by simp only [qR,Am0,hx,hl,e2];rw [if_pos ⟨hm',h0,h1,h2⟩];rfl,h3⟩
  rename_i y
  split at h
  case h_2=>exact h.elim
  rename_i hh hy
  obtain ⟨h0,h1,h2,h3⟩:=h.h
  have e2:Afs (xs.length:Int) ((some y).map (Ah σ))=some hh:=hy
  exact ⟨_,_,by simp only [qR,Am0,hx,hl,e2];rw [if_pos ⟨hm',h0,h1,h2⟩];rfl,h3⟩
 ·rename_i d x
  split at h
  ·rename_i hx
   exact ⟨_,_,by simp [qR,hx,Ajh],h.h⟩
  ·rename_i hx
   obtain ⟨T,u,hT,hs,hn,hk⟩:=I9 h
   split at hk
   case h_2=>exact hk.elim
   exact ⟨_,_,by simp [qR,hx,Ajh,hn],hk.h⟩
  exact K4 h
 ·rename_i d x i
  split at h
  case h_2=>exact h.elim
  rename_i hx hi
  exact ⟨_,_,by simp only [qR,hx,hi];rw [if_pos h.p],h.x⟩
 exact K4 h
def yK (σ:St) (m:Nat) (y:A) (K:List V→St→Prop):Prop:=match y with
 | .val (.sl _ m' ys)=>match Nat.beq m' m with
   | true=>K ys σ
   | false=>False
 | .val (.nilsl _)=>K [] σ
 | .ref r p=>Ac0 (look σ r) p fun u=>match u with
   | .sl o m' ys=>match o with
     | true=>match Nat.beq m' m with
       | true=>NoOwn ys (K ys σ) (match Iy σ (.ref r p) with
         | some (_,σ1)=>K ys σ1
         | none=>False)
       | false=>False
     | false=>False
   | _=>False
 | _=>False
theorem Az5 {σ:St} {m:Nat} {y:A} {K:List V→St→Prop} (h:yK σ m y K) : ∃ys σ1,yS σ m y=some (ys,σ1)∧K ys σ1:=by
 unfold yK at h
 split at h
 ·split at h
  ·rename_i hm
   exact ⟨_,_,by simp [yS,Nat.eq_of_beq_eq_true hm],h⟩
  exact h.elim
 ·exact ⟨_,_,by simp [yS],h⟩
 ·obtain ⟨T,u,hT,hs,hn,hk⟩:=I9 h
  split at hk
  case h_2=>exact hk.elim
  split at hk
  case h_2=>exact hk.elim
  split at hk
  case h_2=>exact hk.elim
  rename_i hm
  have hm':=Nat.eq_of_beq_eq_true hm
  rcases hk.h with ⟨h1,h2⟩ | ⟨h1,h2⟩
  ·exact ⟨_,_,by simp [yS,hn,hm',h1],h2⟩
  split at h2
  ·rename_i U σ1 ht
   exact ⟨_,_,by simp [yS,hn,hm',h1,ht],h2⟩
  exact h2.elim
 exact h.elim
def A8q:AOp→Bool
 | .mov .. => true
 | .pick .. => true
 | .bin .. => true
 | .binb .. => true
 | .un .. => true
 | .cnv .. => true
 | .len .. => true
 | .ext .. => true
 | .iad .. => true
 | .aad .. => true
 | .fadr .. => true
 | .ld .. => true
 | .nck .. => true
 | .mk .. => true
 | .mkc .. => true
 | .mkr .. => true
 | .bslr .. => true
 | .alc .. => true
 | .mkf .. => true
 | .slc .. => true
 | .sidx .. => true
 | .mkm .. => true
 | .mlk .. => true
 | .bstr .. => true
 | _=>false
def Are {α:Type} (f:α→V) (l:List α) (i:Nat):List V:=(l.map f).set i .dead
def Ajz (σ:St) (a:A) (K:V→St→Prop):Prop:=match a with
 | .ref r (c::p)=>(match look σ r with
   | .val T=>Ar6 (c::p) T fun u=>My (c::p) T .dead fun T'=>K u (turnP r T' (c::p) σ)
   | _=>False)
 | a=>match Lg σ a with
   | some (v,σ')=>K v σ'
   | none=>False
theorem V5 {σ:St} {a:A} {K:V→St→Prop} (h:Ajz σ a K) : ∃v σ',Lg σ a=some (v,σ')∧K v σ':=by
 unfold Ajz at h
 split at h
 ·rename_i r c p
  split at h
  case h_2=>exact h.elim
  rename_i T hT
  obtain ⟨u,h1,h2⟩:=Aas h
  obtain ⟨T',h3,h4⟩:=Ge h2
  exact ⟨u,_,by simp only [Lg,Iy,hT,h1,h3],h4⟩
 split at h
 ·exact ⟨_,_,by assumption,h⟩
 exact h.elim
def A32 (o:AOp) (σ:St) (K:St→Prop):Prop:=match o with
 | .mup m k v=>match Ah σ m,Ah σ k,Ah σ v with
   | .ref r p,.val (.str s),.val u=>match vLf u with
     | some x=>match look σ r with
       | .val T=>Ar6 p T fun nd=>match nd with
         | .mp o es=>(match o with
           | true=>MsQ es s x fun es'=>My p T (.mp true es') fun T'=>B6 (Ie r T' (p.length+1) σ) K
           | false=>False)
         | _=>False
       | _=>False
     | none=>False
   | _,_,_=>False
 | .bsl d m ps=>match Qy σ (ps.map (Ah σ)) with
   | some (Us,σ1)=>BslQ d m Us fun l=>B6 (As d (.val (.sl true m l)) σ1) K
   | none=>False
 | .app d m x y=>yK σ m (Ah σ y) fun ys σ1=>Ajz σ1 (Ah σ1 x) fun v σ2=>match v with
   | .sl o m' xs=>(match o with
     | true=>(match Nat.beq m' m with
       | true=>AppQ d xs ys fun l=>B6 (As d (.val (.sl true m l)) σ2) K
       | false=>False)
     | false=>False)
   | _=>False
 | .slt d m x hi=>match Atg (Ah σ hi) with
   | some h=>Ajz σ (Ah σ x) fun v σ2=>match v with
     | .sl o m' xs=>(match o with
       | true=>(match Nat.beq m' m with
         | true=>SlcQ xs 0 h fun ys=>B6 (As d (.val (.sl true m ys)) σ2) K
         | false=>False)
       | false=>False)
     | _=>False
   | none=>False
 | .idx d m n ag x i=>match Ah σ i with
   | .val (.int k j)=>Ask (0≤j∧j<n) (Idx j 0 n fun j=>Aof (if Asr σ (Ah σ x) then A62 d m n ag (Ah σ x) (.val (.int k j)) σ else none) K)
   | _=>False
 | .st n x v=>match Lg σ (Ah σ v) with
   | some (U,σ1)=>match G6 σ1 (Ah σ1 x) with
     | some (.own r p c)=>match look σ1 r with
       | .val T=>Ar6 p T fun nd=>match nd.node&&decide (U.cells.length=n)&&D5 U.cells with
         | true=>SetKids nd c U.cells fun nd'=>My p T nd' fun T'=>B6 (Ie r T' (p.length+1) σ1) K
         | false=>False
       | _=>False
     | _=>False
   | none=>False
 | .nilq d neg x=>match Ah σ x with
   | .val (.sl o _ xs)=>(match o with
     | true=>False
     | false=>Len xs fun n=>Ask ((0:Int)<(n:Int)) (B6 (As d (.val (.bool neg)) σ) K))
   | .ref r p=>Ac0 (look σ r) p fun u=>match u with
     | .sl _ _ xs=>Len xs fun n=>Ask ((0:Int)<(n:Int)) (B6 (As d (.val (.bool neg)) σ) K)
     | _=>False
   | _=>Aof (Cd (.nilq d neg x) σ) K
 | o=>Aof (Cd o σ) K
theorem Avv {o:AOp} {σ:St} {K:St→Prop} (h:A32 o σ K) : ∃σ',Cd o σ=some σ'∧K σ':=by
 unfold A32 at h
 split at h
 ·rename_i m k v
  split at h
  case h_2=>exact h.elim
  rename_i r p s u hm hk hv
  split at h
  case h_2=>exact h.elim
  rename_i x hx
  split at h
  case h_2=>exact h.elim
  rename_i T hT
  obtain ⟨nd,hs,hq⟩:=Aas h
  split at hq
  case h_2=>exact hq.elim
  rename_i o es
  split at hq
  case h_2=>exact hq.elim
  obtain ⟨T',h1,h2⟩:=Ge hq.h
  rw [Av] at h2
  exact ⟨_,by simp [Cd,A5v,hm,hk,hv,hT,hs,Er,Awe,hx,h1],h2⟩
 ·rename_i d m ps
  split at h
  ·rename_i Us σ1 hU
   obtain ⟨h1,h2⟩:=h.h
   rw [Av] at h2
   exact ⟨_,by simp [Cd,Aux,hU,h1],h2⟩
  exact h.elim
 ·rename_i d m x y
  obtain ⟨ys,σ1,hy,hk⟩:=Az5 h
  obtain ⟨v,σ2,hX,hk⟩:=V5 hk
  split at hk
  case h_2=>exact hk.elim
  rename_i o m' xs
  split at hk
  case h_2=>exact hk.elim
  split at hk
  case h_2=>exact hk.elim
  rename_i hm
  have hm':=Nat.eq_of_beq_eq_true hm
  obtain ⟨h1,h2,h3⟩:=hk.h
  rw [Av] at h3
  exact ⟨_,by simp [Cd,A1g,hy,hX,hm',h1,h2],h3⟩
 ·rename_i d m x hi
  split at h
  case h_2=>exact h.elim
  rename_i hh hn
  obtain ⟨v,σ2,hX,hk⟩:=V5 h
  split at hk
  case h_2=>exact hk.elim
  rename_i o m' xs
  split at hk
  case h_2=>exact hk.elim
  split at hk
  case h_2=>exact hk.elim
  rename_i hm
  have hm':=Nat.eq_of_beq_eq_true hm
  obtain ⟨_,h1,h2,h3⟩:=hk.h
  rw [Av] at h3
  exact ⟨_,by simp only [Cd,A3p,hn,hX,hm',h1,h2,and_self,if_true],h3⟩
 ·rename_i d m n ag x i
  split at h
  case h_2=>exact h.elim
  rename_i hi
  obtain ⟨σ',h1,h2⟩:=Ab9 (h.x.h h.p.1 h.p.2)
  exact ⟨σ',by simp only [Cd,hi];exact h1,h2⟩
 ·rename_i n x v
  split at h
  case h_2=>exact h.elim
  rename_i U σ1 ht
  split at h
  case h_2=>exact h.elim
  rename_i r p c hl
  split at h
  case h_2=>exact h.elim
  rename_i T hT
  obtain ⟨u,hs,hk⟩:=Aas h
  split at hk
  case h_2=>exact hk.elim
  rename_i hc
  obtain ⟨nd',h1,h2⟩:=hk.h
  obtain ⟨T',h3,h4⟩:=Ge h2
  rw [Av] at h4
  exact ⟨_,by simp only [Cd,Asg,ht,hl,hT,hs,hc,h1,h3,if_true],h4⟩
 ·rename_i d neg x
  split at h
  ·rename_i o m xs e
   split at h
   ·exact h.elim
   obtain ⟨h1,h2⟩:=h.h
   rw [Av] at h2
   refine ⟨_,?_,h2⟩
   match xs,h1 with
   | [],h1=>simp at h1
   | y::ys,_=>simp [Cd,Azf,e,As4]
  ·rename_i r p e
   obtain ⟨T,u,hT,hs,hn,hk⟩:=I9 h
   split at hk
   case h_2=>exact hk.elim
   rename_i o m xs
   obtain ⟨h1,h2⟩:=hk.h
   rw [Av] at h2
   refine ⟨_,?_,h2⟩
   match xs,h1,hn with
   | [],h1,_=>simp at h1
   | y::ys,_,hn=>simp [Cd,Azf,e,As4,hn]
  exact Ab9 h
 exact Ab9 h
def Ari (o:AOp) (σ:St) (K:St→Prop):Prop:=match A8q o with
 | true=>Ak2 o σ fun d a=>B6 (As d a σ) K
 | false=>A32 o σ K
theorem Wc {o:AOp} {σ:St} {K:St→Prop} (h:Ari o σ K) : ∃σ',Cd o σ=some σ'∧K σ':=by
 unfold Ari at h
 split at h
 ·obtain ⟨d,a,h1,h2⟩:=W7 h
  rw [Av] at h2
  exact ⟨_,(At2 h1).1,h2⟩
 exact Avv h
structure CallQ (P:Program) (f d:Nat) (vs:List V) (ls:List (Nat×Nat×List Nat)) (rs:List Nat) (K:St→Prop) (σ:St):Prop where
 h:Io σ ls rs=true∧Tri P f vs (Gs d ls rs K σ)
structure CallP (P:Program) (f d:Nat) (vs:List V) (rs:List Nat) (K:V→Prop):Prop where
 h : ∃v,Tri P f vs (fun res _=>res=v∧Ea rs v=true)∧K v
structure CloQ (P:Program) (f d:Nat) (cs vs:List V) (rs:List Nat) (K:St→Prop) (σ:St):Prop where
 h:Tri P f (vs++fzL cs) (Gs d [] rs K σ)
def Ave (σ:St) (a:A) (io:Bool) (k:Nat) (K:V→List (Nat×Nat×List Nat)→List Nat→Prop):Prop:=match a with
 | .val v=>K v.fz [] []
 | .ref r p=>Ac0 (look σ r) p fun u=>match io&&u.node with
   | true=>K u [(k,r,p)] []
   | false=>K u.fz [] [r]
 | a=>match Ny σ a with
   | some v=>K v [] a.roots
   | none=>False
def Aeq (σ:St):List (A×Bool)→Nat→(List V→List (Nat×Nat×List Nat)→List Nat→Prop)→Prop
 | [],_,K=>K [] [] []
 | (a,io)::rest,k,K=>Ave σ a io k fun v ls' rs'=>Aeq σ rest (k+1) fun vs ls rs=>K (v::vs) (ls'++ls) (rs'++rs)
theorem A1h {σ:St} {a:A} {io:Bool} {k:Nat} {K:V→List (Nat×Nat×List Nat)→List Nat→Prop} (h:Ave σ a io k K) :
  (∃r p u,io=true∧T3 σ a=some (r,p,u)∧K u [(k,r,p)] [])∨((io=true→T3 σ a=none) ∧ ∃v,Ny σ a=some v∧K v [] a.roots):=by
 cases a with
 | val v=>exact .inr ⟨fun _=>rfl,_,rfl,h⟩
 | ref r p=>
   obtain ⟨T,u,hT,hs,hn,hk⟩:=I9 h
   split at hk
   ·rename_i hb
    simp only [Bool.and_eq_true] at hb
    exact .inl ⟨r,p,u,hb.1,by simp [T3,hn,hb.2],hk⟩
   ·rename_i hb
    refine .inr ⟨fun hi=> ?_,u.fz,by simp [Ny,hn],hk⟩
    simp only [T3,hn]
    cases hu:u.node with
    | false=>rfl
    | true=>rw [hi,hu] at hb;cases hb
 | top=>simp [Ave,Ny] at h
 | addr r p c=>simp [Ave,Ny] at h
 | fad cs=>simp [Ave,Ny] at h
 | tie b f p q=>simp [Ave,Ny] at h
 | agg as=>
   simp only [Ave] at h
   split at h
   ·exact .inr ⟨fun _=>rfl,_,by assumption,h⟩
   ·exact h.elim
 | clo f as=>
   simp only [Ave] at h
   split at h
   ·exact .inr ⟨fun _=>rfl,_,by assumption,h⟩
   ·exact h.elim
theorem Mz {σ:St} : ∀ {as:List (A×Bool)} {k:Nat} {K:List V→List (Nat×Nat×List Nat)→List Nat→Prop},Aeq σ as k K → ∃vs ls rs,Fm σ as k=some (vs,ls,rs)∧K vs ls rs:=by
 intro as
 induction as with
 | nil=>intro k K h;exact ⟨[],[],[],rfl,h⟩
 | cons e rest ih=>
   intro k K h
   obtain ⟨a,io⟩:=e
   simp only [Aeq] at h
   rcases A1h h with ⟨r,p,u,h1,h2,h3⟩ | ⟨h1,v,h2,h3⟩
   ·obtain ⟨vs,ls,rs,h4,h5⟩:=ih h3
    exact ⟨_,_,_,by simp [Fm,h4,h1,h2],h5⟩
   ·obtain ⟨vs,ls,rs,h4,h5⟩:=ih h3
    refine ⟨_,_,_,?_,h5⟩
    simp only [Fm,h4]
    have:(if io=true then T3 σ a else none)=none:=by split<;>simp_all
    simp [this,h2]
structure LendQ (P:Program) (f d n:Nat) (bs:List A) (vs:List V) (ls:List (Nat×Nat×List Nat)) (rs:List Nat) (K:St→Prop) (σ:St):Prop where
 h:Io σ ls rs=true∧Tri P f (Aug n bs.length vs) (Yw n (Gs d ls rs K σ))
structure CallT (P:Program) (f m j d:Nat) (vs:List V) (ls:List (Nat×Nat×List Nat)) (rs:List Nat) (K:St→Prop) (σ:St):Prop where
 h:Io σ ls rs=true∧Ao8 P f m j vs (Gs d ls rs K σ)
def Azy (P:Program) (f d:Nat) (as:List (A×Bool)) (K:St→Prop) (σ:St):Prop:=match Mw as with
 | some (pre,bs,rest)=>Aeq σ (pre++(bs.map (·,true)++rest)) 0 fun vs ls rs=>LendQ P f d pre.length bs vs ls rs K σ
 | none=>Aeq σ as 0 fun vs ls rs=>CallQ P f d vs ls rs K σ
def opK (P:Program) (o:AOp) (σ:St) (K:St→Prop):Prop:=match o with
 | .call d f as=>Azy P f d (Fg σ as) K σ
 | .cally d x as ms=>match Ah σ x with
   | .val (.clo f cs)=>Aeq σ (Fg σ (as.map (·,false))) 0 fun vs ls rs=>match ls with
     | []=>CloQ P f d cs vs rs K σ
     | _=>False
   | .val (.fclo f cs)=>Aeq σ (Fg σ (as.map (·,false))) 0 fun vs ls rs=>match ls with
     | []=>CloQ P f d cs vs rs K σ
     | _=>False
   | .clo f cs=>Azy P f d (Fg σ (as.map (·,false))++Ag0 ms cs) K σ
   | .tie true f p q=>Aeq σ (Fg σ (as.map (·,false))++Ag0 ms (p ++ .val .dead::q)) 0 fun vs ls rs=>CallT P f as.length p.length d vs ls rs K σ
   | _=>False
 | .slc d m (.t s) lo hi=>(match look σ s with
   | .val T=>(match T.hasOwn with
     | true=>B6 (Alq s σ) fun σ'=>Ari (.slc d m (.t s) lo hi) σ' K
     | false=>Ari (.slc d m (.t s) lo hi) σ K)
   | _=>Ari (.slc d m (.t s) lo hi) σ K)
 | o=>Ari o σ K
theorem Akz {P:Program} {f d:Nat} {as:List (A×Bool)} {K:St→Prop} {σ:St} (h:Azy P f d as K σ):Lu P f d as K σ:=by
 unfold Azy at h
 unfold Lu
 split at h
 ·rename_i e
  simp only [e]
  obtain ⟨vs,ls,rs,h1,h2⟩:=Mz h
  rw [h1];exact h2.h
 rename_i e
 simp only [e]
 obtain ⟨vs,ls,rs,h1,h2⟩:=Mz h
 rw [h1];exact h2.h
theorem Aow {σ:St} : ∀(cs:List V) (k:Nat),Fm σ (cs.map fun c=>(A.val c,false)) k=some (fzL cs,[],[]):=by
 intro cs
 induction cs with
 | nil=>intro k;rfl
 | cons c r ih=>intro k;simp [Fm,ih,Ny,fzL,A.roots]
theorem Agn {σ:St} {bs:List (A×Bool)} {us:List V} (hb : ∀k,Fm σ bs k=some (us,[],[])) : ∀ {as:List (A×Bool)} {k:Nat} {vs ls rs},Fm σ as k=some (vs,ls,rs) →
  Fm σ (as++bs) k=some (vs++us,ls,rs):=by
 intro as
 induction as with
 | nil=>intro k vs ls rs h;simp [Fm] at h;obtain ⟨rfl,rfl,rfl⟩:=h;exact hb k
 | cons e rest ih=>
   intro k vs ls rs h
   obtain ⟨a,io⟩:=e
   simp only [Fm] at h
   split at h
   ·cases h
   ·rename_i vs' ls' rs' h1
    simp only [List.cons_append,Fm,ih h1]
    split at h
    ·rename_i r p u h2
     cases h
     rfl
    ·rename_i h2
     split at h
     ·rename_i v h3
      cases h
      rfl
     ·cases h
theorem Ape {σ:St} {xs:List X} {cs:List V}:Mw (Fg σ (xs.map (·,false))++cs.map fun c=>(A.val c,false))=none:=by
 refine Ahs fun e he=> ?_
 rcases List.mem_append.1 he with h | h
 ·obtain ⟨y,hy,rfl⟩:=List.mem_map.1 h
  obtain ⟨z,hz,rfl⟩:=List.mem_map.1 hy
  rfl
 obtain ⟨y,hy,rfl⟩:=List.mem_map.1 h
 rfl
theorem Akv {P:Program} {o:AOp} {σ:St} {K:St→Prop} (h:opK P o σ K):Aa7 P o K σ:=by
 unfold opK at h
 unfold Aa7
 split at h
 ·exact Akz h
 ·split at h
  ·rename_i e
   obtain ⟨vs,ls,rs,h1,h2⟩:=Mz h
   split at h2
   case h_2=>exact h2.elim
   simp only [e,Ael]
   unfold Lu
   rw [Ape]
   simp only
   rw [Agn (fun k=>Aow _ k) h1]
   exact ⟨rfl,h2.h⟩
  ·rename_i e
   obtain ⟨vs,ls,rs,h1,h2⟩:=Mz h
   split at h2
   case h_2=>exact h2.elim
   simp only [e,Ael]
   unfold Lu
   rw [Ape]
   simp only
   rw [Agn (fun k=>Aow _ k) h1,Ah8]
   exact ⟨rfl,h2.h⟩
  ·rename_i e
   simp only [e,Ael];exact Akz h
  ·rename_i e
   obtain ⟨vs,ls,rs,h1,h2⟩:=Mz h
   simp only [e,Ael,A33]
   unfold Tz
   rw [h1];exact h2.h
  exact h.elim
 ·rename_i d m s lo hi
  simp only [Ahd]
  split at h
  ·rename_i T hT
   simp only [hT]
   split at h
   ·rename_i ho
    rw [Av] at h
    obtain ⟨σ',e,hk⟩:=Wc h
    simp only [ho]
    rw [e];exact hk
   rename_i ho
   obtain ⟨σ',e,hk⟩:=Wc h
   simp only [ho]
   rw [e];exact hk
  rename_i hne
  obtain ⟨σ',e,hk⟩:=Wc h
  split
  ·rename_i σ2 he
   split at he
   ·rename_i T hT;exact absurd hT (hne T)
   rw [e] at he;cases he;exact hk
  rename_i he
  split at he
  ·rename_i T hT;exact absurd hT (hne T)
  rw [e] at he;cases he
 rename_i h1 h2 h3
 obtain ⟨σ',e,hk⟩:=Wc h
 have hp:Ahd o σ=σ:=by
  unfold Ahd
  split
  ·exact absurd rfl (h3 _ _ _ _ _)
  ·rfl
 split
 ·exact absurd rfl (h1 _ _ _)
 ·exact absurd rfl (h2 _ _ _ _)
 rw [hp,e];exact hk
def Ayl (P:Program) (o:AOp) (σ:St) (K:St→Prop):Prop:=match o with
 | .call d f as=>(match Ar4 as with
   | []=>opK P (.call d f as) σ K
   | _::_=>B6 (Afm as σ) fun τ=>opK P (.call d f as) τ K)
 | o=>opK P o σ K
theorem Anw {P:Program} {o:AOp} {σ:St} {K:St→Prop} (h:Ayl P o σ K):Sp P o K σ:=by
 unfold Ayl at h
 unfold Sp
 split at h
 ·simp only [Ack]
  split at h
  ·rename_i e
   simp only [e]
   exact Akv h
  rename_i e
  rw [Av] at h
  simp only [e]
  exact Akv h
 rename_i h1
 have hp:Ack o σ=σ:=by
  unfold Ack
  split
  ·exact absurd rfl (h1 _ _ _)
  ·rfl
 rw [hp]
 exact Akv h
def Ul (P:Program):List G→(St→Prop)→St→Prop
 | [],K,σ=>K σ
 | ⟨none,o⟩::r,K,σ=>Ayl P o σ (Ul P r K)
 | ⟨some (s,true),o⟩::r,K,σ=>match look σ s with
   | .val (.bool b)=>Br b (B6 (P2 s true σ) fun τ=>Ayl P o τ (Ul P r K)) (B6 (Ab4 o (P2 s false σ)) (Ul P r K))
   | .val (.tup [])=>B6 (Ab4 o σ) (Ul P r K)
   | _=>False
 | ⟨some (s,false),o⟩::r,K,σ=>match look σ s with
   | .val (.bool b)=>Br b (B6 (Ab4 o (P2 s true σ)) (Ul P r K)) (B6 (P2 s false σ) fun τ=>Ayl P o τ (Ul P r K))
   | .val (.tup [])=>B6 (Ab4 o σ) (Ul P r K)
   | _=>False
theorem W9 {P:Program} : ∀ {gs:List G} {K:St→Prop} {σ:St},Ul P gs K σ→Gt P gs K σ:=by
 intro gs
 induction gs with
 | nil=>intro K σ h;exact h
 | cons x r ih=>
   intro K σ h
   obtain ⟨g,o⟩:=x
   have run : ∀ {τ},Ayl P o τ (Ul P r K)→Sp P o (Gt P r K) τ:=fun h=>M4 (fun _=>ih) (Anw h)
   match g,h with
   | none,h=>exact run h
   | some (s,true),h=>
     simp only [Ul] at h
     simp only [Gt]
     split at h
     ·rename_i b hb
      simp only [hb]
      refine ⟨fun e=> ?_,fun e=> ?_⟩
      ·subst e
       have:=h.t rfl
       rw [Av,Tk hb] at this
       exact run this
      ·have e':b=false:=by simpa using e
       subst e'
       have:=h.f rfl
       rw [Av,Tk hb] at this
       exact ih this
     ·rename_i hb
      simp only [hb]
      rw [Av] at h;exact ih h
     ·exact h.elim
   | some (s,false),h=>
     simp only [Ul] at h
     simp only [Gt]
     split at h
     ·rename_i b hb
      simp only [hb]
      refine ⟨fun e=> ?_,fun e=> ?_⟩
      ·subst e
       have:=h.f rfl
       rw [Av,Tk hb] at this
       exact run this
      ·have e':b=true:=by simpa using e
       subst e'
       have:=h.t rfl
       rw [Av,Tk hb] at this
       exact ih this
     ·rename_i hb
      simp only [hb]
      rw [Av] at h;exact ih h
     ·exact h.elim
def yNK (σ:St) (m s:Nat) (y:A) (K:List V→Prop):Prop:=match y with
 | .val (.sl _ m' ys)=>(match Nat.beq m' m with
   | true=>K ys
   | false=>False)
 | .val (.nilsl _)=>K []
 | .ref r p=>(match Nat.beq r s with
   | true=>False
   | false=>Ac0 (look σ r) p fun u=>match u with
     | .sl o m' ys=>(match o with
       | true=>(match Nat.beq m' m with
         | true=>NoOwn ys (K ys) False
         | false=>False)
       | false=>False)
     | _=>False)
 | _=>False
theorem A2f {σ:St} {m s:Nat} {y:A} {K:List V→Prop} (h:yNK σ m s y K) : ∃ys,yN σ m s y=some ys∧K ys:=by
 unfold yNK at h
 split at h
 ·split at h
  ·rename_i hm
   exact ⟨_,by simp [yN,Nat.eq_of_beq_eq_true hm],h⟩
  exact h.elim
 ·exact ⟨_,by simp [yN],h⟩
 ·split at h
  ·exact h.elim
  rename_i hrs
  obtain ⟨T,u,hT,hs,hn,hk⟩:=I9 h
  split at hk
  case h_2=>exact hk.elim
  split at hk
  case h_2=>exact hk.elim
  split at hk
  case h_2=>exact hk.elim
  rename_i hm
  have hm':=Nat.eq_of_beq_eq_true hm
  have hne : ∀ {r:Nat},Nat.beq r s=false→r≠s:=by
   intro r h1 h2;subst h2;simp at h1
  rcases hk.h with ⟨h1,h2⟩ | ⟨_,h2⟩
  ·exact ⟨_,by simp [yN,hn,hm',h1,hne hrs],h2⟩
  exact h2.elim
 exact h.elim
def Aoh:List Nat→(List Nat→Prop)→Prop
 | [],K=>K []
 | n::r,K=>Aoh r fun s=>K (n::s)
theorem Aq6 : ∀(l:List Nat) (K:List Nat→Prop),Aoh l K=K l:=by
 intro l
 induction l with
 | nil=>intro K;rfl
 | cons n r ih=>intro K;simp only [Aoh];rw [ih]
def Ays (P:Program) (o:AOp) (σ:St) (K:Nat→A→List Nat→Prop):Prop:=match o with
 | .call d f as=>match as.all (fun e => !e.2) with
   | true=>Aeq σ (Fg σ as) 0 fun vs ls rs=>match ls with
     | []=>CallP P f d vs rs fun v=>K d (.val v) []
     | _=>False
   | false=>False
 | .app d m (.t s) y=>(match look σ s with
   | .val (.sl o m' xs)=>(match o with
     | true=>(match Nat.beq m' m with
       | true=>yNK σ m s (Ah σ y) fun ys=>AppQ d xs ys fun l=>K d (.val (.sl true m l)) [s]
       | false=>False)
     | false=>False)
   | _=>False)
 | .bsl d m ps=>(match Sh σ ps with
   | some (Us,ks)=>BslQ d m Us fun l=>Aoh ks fun ks=>K d (.val (.sl true m l)) ks
   | none=>False)
 | .asg d (.t s)=>(match look σ s with
   | .val v=>(match v.hasOwn with
     | true=>Un (.val v) fun a=>K d a [s]
     | false=>Un (.val v.up) fun a=>K d a [])
   | _=>False)
 | o=>Ak2 o σ fun d a=>K d a []
theorem As1 {P:Program} {o:AOp} {σ:St} {K:Nat→A→List Nat→Prop} (h:Ays P o σ K):Tt P o σ K:=by
 unfold Ays at h
 unfold Tt
 split at h
 ·split at h
  case h_2=>exact h.elim
  rename_i hio
  refine ⟨hio,?_⟩
  obtain ⟨vs,ls,rs,h1,h2⟩:=Mz h
  split at h2
  case h_2=>exact h2.elim
  rw [h1]
  exact h2.h
 ·split at h
  case h_2=>exact h.elim
  rename_i hL
  split at h
  case h_2=>exact h.elim
  split at h
  case h_2=>exact h.elim
  rename_i hm
  obtain ⟨ys,h1,h2⟩:=A2f h
  simp only [hL,h1]
  obtain ⟨k1,k2,k3⟩:=h2.h
  exact ⟨⟨trivial,Nat.eq_of_beq_eq_true hm,k1,k2⟩,k3⟩
 ·split at h
  case h_2=>exact h.elim
  rename_i ht
  obtain ⟨k1,k2⟩:=h.h
  rw [Aq6] at k2
  simp only [ht]
  exact ⟨k1,k2⟩
 ·split at h
  case h_2=>exact h.elim
  rename_i hL
  split at h
  ·rename_i hv
   rw [Q1] at h
   simp only [hL,hv];exact h
  rename_i hv
  rw [Q1] at h
  simp only [hL,hv];exact h
 rename_i h1 h2 h3 h4
 obtain ⟨d,a,e,hk⟩:=W7 h
 split
 ·exact absurd rfl (h1 _ _ _)
 ·exact absurd rfl (h2 _ _ _ _)
 ·exact absurd rfl (h3 _ _ _)
 ·exact absurd rfl (h4 _ _)
 rw [e];exact hk
def hk (hide kl:List Nat):List Nat:=match kl with
 | []=>hide
 | k::r=>hide++(k::r)
theorem Avq (hide kl:List Nat):hk hide kl=hide++kl:=by
 cases kl with
 | nil=>simp [hk]
 | cons k r=>rfl
def A4i (acc:St) (kl:List Nat):Bool:=match kl with
 | []=>true
 | k::r=>Rf acc (k::r)
theorem Arc {acc:St} {kl:List Nat} (h:A4i acc kl=true):Rf acc kl=true:=by
 cases kl with
 | nil=>unfold Rf;simp
 | cons k r=>exact h
def A0j (kl:List Nat) (acc:St):St:=match kl with
 | []=>acc
 | k::r=>Fo (k::r) acc
theorem Auy (kl:List Nat) (acc:St):A0j kl acc=Fo kl acc:=by
 cases kl with
 | nil=>
   simp only [A0j]
   induction acc with
   | nil=>rfl
   | cons e r ih=>obtain ⟨d,a⟩:=e;simp [Fo,←ih]
 | cons k r=>rfl
structure LendP (P:Program) (f d:Nat) (vs:List V) (rs:List Nat) (k:Nat) (p:List Nat) (T:V) (K:V→V→Prop):Prop where
 h : ∃v u T',Tri P f vs (fun res outs=>res=v∧outs[k]? = some u)∧(Ea rs v=true∧Ea rs u=true∧u.node=true∧upd p T u=some T')∧K v T'
def Asj (P:Program) (o:AOp) (s:Nat) (σ:St) (K:Nat→V→Nat×V×Nat→Prop):Prop:=match o with
 | .call d f as=>(match Mw (Fg σ as) with
   | some _=>False
   | none=>Aeq σ (Fg σ as) 0 fun vs ls rs=>match ls with
     | [(k,r,p)]=>(match Nat.beq r s && !rs.contains r with
       | true=>(match look σ r with
         | .val T=>LendP P f d vs rs k p T fun v T'=>K d v (r,T',p.length+1)
         | _=>False)
       | false=>False)
     | _=>False)
 | _=>False
theorem Aqd {P:Program} {o:AOp} {s:Nat} {σ:St} {K:Nat→V→Nat×V×Nat→Prop} (h:Asj P o s σ K):Acq P o s σ K:=by
 unfold Asj at h
 unfold Acq
 split at h
 case h_2=>exact h.elim
 split at h
 ·exact h.elim
 rename_i hgv
 obtain ⟨vs,ls,rs,h1,h2⟩:=Mz h
 split at h2
 case h_2=>exact h2.elim
 rename_i k r p
 split at h2
 case h_2=>exact h2.elim
 rename_i hb
 simp only [Bool.and_eq_true,Bool.not_eq_true'] at hb
 split at h2
 case h_2=>exact h2.elim
 rename_i T hT
 simp only [hgv,h1,hT]
 exact ⟨⟨Nat.eq_of_beq_eq_true hb.1,hb.2⟩,h2.h⟩
def An6 (ls hide:List Nat) (cs:List (Nat×V×Nat)) (σ:St):St:=match ls with
 | []=>σ
 | l::q=>Qs (l::q) hide cs σ
theorem A1m (σ:St):Aet [] σ=σ:=by
 induction σ with
 | nil=>rfl
 | cons e r ih=>
   obtain ⟨k,a⟩:=e
   simp [Aet,ih]
theorem A3g {ls hide:List Nat} {cs:List (Nat×V×Nat)} {σ:St} (hc : ∀c∈cs,ls.contains c.1=true):An6 ls hide cs σ=Qs ls hide cs σ:=by
 cases ls with
 | nil=>
   have:cs=[]:=by
    cases cs with
    | nil=>rfl
    | cons c q=>have:=hc c (by simp);simp at this
   subst this
   simp only [An6,Qs,List.filter_nil,Hx]
   have:(List.filter (fun x=>([]:List Nat).contains x) hide)=[]:=by simp
   rw [this,A1m]
 | cons l q=>rfl
abbrev Axn:=St→List Nat→List (Nat×V×Nat)→(St→Prop)→Prop
def Azr (σ0 acc:St) (o:AOp) (hide kl:List Nat) (cs:List (Nat×V×Nat)) (K:St→Prop) (ih:Axn) (acc1:St) (d:Nat) (a:A) (ks:List Nat):Prop:=match W4 d acc σ0 with
 | true=>(match ks with
   | []=>B6 (acc1++[(d,a.mapR (Ap d 0))]) fun acc'=>ih acc' kl cs K
   | k::q=>(match Agh (k::q) o (Fo (hk hide kl) acc) with
     | true=>B6 (acc1++[(d,a.mapR (Ap d 0))]) fun acc'=>Aoh (kl++(k::q)) fun kl'=>ih acc' kl' cs K
     | false=>False))
 | false=>False
def Ade (σ0 acc:St) (o:AOp) (kl:List Nat) (cs:List (Nat×V×Nat)) (K:St→Prop) (ih:Axn) (acc1:St):Prop:=match o.dst with
 | some d=>(match W4 d acc σ0 with
   | true=>B6 (acc1++[(d,.val (.tup []))]) fun acc'=>ih acc' kl cs K
   | false=>False)
 | none=>False
def Aos (P:Program) (ls:List Nat) (σ0 acc:St) (o:AOp) (hide kl:List Nat) (cs:List (Nat×V×Nat)) (K:St→Prop) (ih:Axn) (acc1:St):Prop:=
 B6 (Fo (hk hide kl) acc1++An6 ls hide cs σ0) fun σh=>Ays P o σh (Azr σ0 acc o hide kl cs K ih acc1)
def Ay6 (P:Program) (ls:List Nat) (σ0 acc:St) (o:AOp) (s:Nat) (hide kl:List Nat) (cs:List (Nat×V×Nat)) (K:St→Prop) (ih:Axn):Prop:=
 B6 (Fo (hk hide kl) acc++An6 ls hide.tail cs σ0) fun σh=>Asj P o s σh fun d v c=>match W4 d acc σ0&&ls.contains s&&Ax3 (look σ0 s)&&Nat.beq c.1 s with
  | true=>B6 (acc++[(d,.val v)]) fun acc'=>ih acc' kl (cs++[c]) K
  | false=>False
def Ahc (P:Program) (ls:List Nat) (σ0:St) (x:G×List Nat) (ih:Axn) (acc:St) (kl:List Nat) (cs:List (Nat×V×Nat)) (K:St→Prop):Prop:=match x with
 | (⟨none,o⟩,hide)=>(match Qc o hide with
   | []=>Aos P ls σ0 acc o hide kl cs K ih acc
   | s::_=>Ay6 P ls σ0 acc o s hide kl cs K ih)
 | (⟨some (s,true),o⟩,hide)=>(match (hk hide kl).contains s || !(Qc o hide).isEmpty with
   | true=>False
   | false=>(match look (Fo (hk hide kl) acc++An6 ls hide cs σ0) s with
     | .val (.bool b)=>Br b (Aos P ls σ0 acc o hide kl cs K ih (P2 s true acc)) (Ade σ0 acc o kl cs K ih (P2 s false acc))
     | .val (.tup [])=>Ade σ0 acc o kl cs K ih acc
     | _=>False))
 | (⟨some (s,false),o⟩,hide)=>(match (hk hide kl).contains s || !(Qc o hide).isEmpty with
   | true=>False
   | false=>(match look (Fo (hk hide kl) acc++An6 ls hide cs σ0) s with
     | .val (.bool b)=>Br b (Ade σ0 acc o kl cs K ih (P2 s true acc)) (Aos P ls σ0 acc o hide kl cs K ih (P2 s false acc))
     | .val (.tup [])=>Ade σ0 acc o kl cs K ih acc
     | _=>False))
def Awy (σ0 acc:St) (kl:List Nat) (cs:List (Nat×V×Nat)) (K:St→Prop):Prop:=match A4i acc kl with
 | true=>(match cs with
   | []=>B6 (A0j kl acc++σ0) K
   | c::q=>(match Ak7 acc (c::q) with
     | true=>B6 (A0j kl acc++Hx (c::q) σ0) K
     | false=>False))
 | false=>False
def Ar7 (P:Program) (ls:List Nat) (σ0:St) (l:List (G×List Nat)):Axn:=
 List.rec (motive:=fun _=>Axn) (Awy σ0) (fun x _ ih=>Ahc P ls σ0 x ih) l
theorem Aa3 {hide:List Nat} {acc σ0:St} {s:Nat} {b:Bool} (h:look (Fo hide acc++σ0) s = .val (.bool b)) (hh:hide.contains s=false):P2 s b acc=acc:=by
 rw [G7] at h
 split at h
 ·rw [Afj _ _ _ hh] at h
  exact Tk h
 rename_i hk
 rw [Ac4] at hk
 have hk':A4 s acc=false:=by
  rw [hh] at hk;simpa using hk
 clear h hk
 induction acc with
 | nil=>rfl
 | cons e r ih=>
   obtain ⟨k,a⟩:=e
   simp only [A4,Bool.or_eq_false_iff,beq_eq_false_iff_ne] at hk'
   simp only [P2]
   rw [show Nat.beq k s=false by
    cases hb:Nat.beq k s with
    | false=>rfl
    | true=>exact absurd (Nat.eq_of_beq_eq_true hb) hk'.1]
   simp only [ih hk'.2]
theorem Axo {P:Program} {o:AOp} {σ:St} {c c':Nat→A→List Nat→Prop} (h : ∀d a ks,c d a ks→c' d a ks) (ha:Tt P o σ c):Tt P o σ c':=Afq h ha
theorem Alf {P:Program} {ls:List Nat} {σ0:St} : ∀ {l:List (G×List Nat)} {acc:St} {kl:List Nat} {cs:List (Nat×V×Nat)} {KS:List (List Nat)} {CS:List (List (Nat×V×Nat))} {K:St→Prop},KS.flatten=kl→CS.flatten=cs→(∀c∈cs,ls.contains c.1=true)→Ar7 P ls σ0 l acc kl cs K→He P ls σ0 l acc KS CS K:=by
 intro l
 induction l with
 | nil=>
   intro acc kl cs KS CS K hkl hcs hin h
   subst hkl
   change Awy σ0 acc KS.flatten cs K at h
   simp only [Awy] at h
   split at h
   ·rename_i hr
    split at h
    ·rw [Av,Auy] at h
     refine ⟨⟨Arc hr,?_⟩,?_⟩
     ·rw [hcs];unfold Ak7;simp
     ·rw [hcs];exact h
    ·split at h
     ·rename_i hr2
      rw [Av,Auy] at h
      rw [←hcs] at h hr2
      exact ⟨⟨Arc hr,hr2⟩,h⟩
     ·exact h.elim
   ·exact h.elim
 | cons x r ih=>
   intro acc kl cs KS CS K hkl hcs hin h
   subst hkl
   obtain ⟨⟨g,o⟩,hide⟩:=x
   change Ahc P ls σ0 (⟨g,o⟩,hide) (Ar7 P ls σ0 r) acc KS.flatten cs K at h
   have hbk : ∀hide,An6 ls hide cs σ0=Qs ls hide CS.flatten σ0:=fun hide=>by rw [A3g hin,hcs]
   have run:Aos P ls σ0 acc o hide KS.flatten cs K (Ar7 P ls σ0 r) acc→Tt P o (Fo (hide++KS.flatten) acc++Qs ls hide CS.flatten σ0) fun d a ks=>(W4 d acc σ0=true∧Agh ks o (Fo (hide++KS.flatten) acc)=true)∧He P ls σ0 r (acc++[(d,a.mapR (Ap d 0))]) (KS++[ks]) (CS++[[]]) K:=by
    intro h
    unfold Aos at h
    rw [Av,Avq,hbk] at h
    refine Axo ?_ (As1 h)
    intro d a ks hk
    unfold Azr at hk
    rw [Avq] at hk
    split at hk
    ·rename_i hf
     split at hk
     ·rw [Av] at hk
      exact ⟨⟨hf,rfl⟩,ih (by simp) (by simp [hcs]) hin hk⟩
     ·split at hk
      ·rename_i hkk
       rw [Av,Aq6] at hk
       exact ⟨⟨hf,hkk⟩,ih (by simp) (by simp [hcs]) hin hk⟩
      ·exact hk.elim
    ·exact hk.elim
   have skip:Ade σ0 acc o KS.flatten cs K (Ar7 P ls σ0 r) acc→(match o.dst with
      | some d=>W4 d acc σ0=true∧He P ls σ0 r (acc++[(d,.val (.tup []))]) (KS++[[]]) (CS++[[]]) K
      | none=>False):=by
    intro h
    unfold Ade at h
    cases hd:o.dst with
    | none=>rw [hd] at h;exact h.elim
    | some d=>
      rw [hd] at h
      cases hf:W4 d acc σ0 with
      | false=>simp only [hf] at h
      | true=>
        simp only [hf] at h
        rw [Av] at h
        exact ⟨hf,ih (by simp) (by simp [hcs]) hin h⟩
   match g,h with
   | none,h=>
     simp only [Ahc] at h
     simp only [He]
     cases hlo:Qc o hide with
     | nil=>rw [hlo] at h;exact run h
     | cons s q=>
       rw [hlo] at h
       simp only at h ⊢
       unfold Ay6 at h
       rw [Av,Avq,hbk] at h
       refine Aky ?_ (Aqd h)
       intro d v c hc
       split at hc
       case h_2=>exact hc.elim
       rename_i hcond
       simp only [Bool.and_eq_true] at hcond
       rw [Av] at hc
       refine ⟨⟨hcond.1.1.1,hcond.1.1.2,hcond.1.2⟩,ih (by simp) (by simp [hcs]) ?_ hc⟩
       intro c' hc'
       rcases List.mem_append.1 hc' with h1 | h1
       ·exact hin c' h1
       ·simp at h1
        subst h1
        rw [Nat.eq_of_beq_eq_true hcond.2];exact hcond.1.1.2
   | some (s,true),h=>
     simp only [Ahc,Avq,hbk] at h
     simp only [He]
     split at h
     ·exact h.elim
     rename_i hh
     simp only [Bool.or_eq_false_iff,Bool.not_eq_false',List.isEmpty_iff] at hh
     refine ⟨hh.2,?_⟩
     replace hh:=hh.1
     split at h
     ·rename_i b hb
      simp only [hb]
      refine ⟨fun e=> ?_,fun e=> ?_⟩
      ·subst e
       have:=h.t rfl
       rw [Aa3 hb hh] at this
       exact run this
      ·have e':b=false:=by simpa using e
       subst e'
       have:=h.f rfl
       rw [Aa3 hb hh] at this
       exact skip this
     ·rename_i hb
      simp only [hb]
      exact skip h
     ·exact h.elim
   | some (s,false),h=>
     simp only [Ahc,Avq,hbk] at h
     simp only [He]
     split at h
     ·exact h.elim
     rename_i hh
     simp only [Bool.or_eq_false_iff,Bool.not_eq_false',List.isEmpty_iff] at hh
     refine ⟨hh.2,?_⟩
     replace hh:=hh.1
     split at h
     ·rename_i b hb
      simp only [hb]
      refine ⟨fun e=> ?_,fun e=> ?_⟩
      ·subst e
       have:=h.f rfl
       rw [Aa3 hb hh] at this
       exact run this
      ·have e':b=true:=by simpa using e
       subst e'
       have:=h.t rfl
       rw [Aa3 hb hh] at this
       exact skip this
     ·rename_i hb
      simp only [hb]
      exact skip h
     ·exact h.elim
structure SameQ (x y:A) (K:Prop):Prop where
 h:x=y∧K
def Asv (A:List (Nat×AOp)) (K:St→Prop):St→Prop:=
 List.rec (motive:=fun _=>St→Prop) K (fun e _ ih σ=>Ak2 e.2 σ fun d a=>match Aeo a with
  | true=>B6 (As d a σ) ih
  | false=>False) A
def Ank (xs:List Nat) (σ:St) (K:Prop) (A:List (Nat×AOp)):Prop:=
 List.rec (motive:=fun _=>Prop) K (fun e _ ih=>match xs.contains e.1 with
  | true=>Ak2 e.2 σ fun d a=>match Awo a d σ with
    | true=>SameQ (look σ d) a ih
    | false=>False
  | false=>ih) A
def Adg (P:Program) (o:AOp) (ds:List Nat) (σ:St) (K:St→Prop):Prop:=match ds with
 | []=>Ayl P o σ K
 | s::q=>(match o with
   | .app d m x y=>yK σ m (Ah σ y) fun ys σ1=>Ajz σ1 (Ah σ1 x) fun v σ2=>match v with
     | .sl o m' xs=>(match o with
       | true=>(match Nat.beq m' m with
         | true=>AppQ d xs ys fun l=>B6 (Kv (s::q) (As d (.val (.sl true m l)) σ2)) K
         | false=>False)
       | false=>False)
     | _=>False
   | .slt d m x hi=>(match Atg (Ah σ hi) with
     | some h=>Ajz σ (Ah σ x) fun v σ2=>match v with
       | .sl o m' xs=>(match o with
         | true=>(match Nat.beq m' m with
           | true=>SlcQ xs 0 h fun ys=>B6 (Kv (s::q) (As d (.val (.sl true m ys)) σ2)) K
           | false=>False)
         | false=>False)
       | _=>False
     | none=>False)
   | _=>False)
theorem A0u (σ:St):Kv [] σ=σ:=by
 have key : ∀a:A,a.mapR (Aps [])=a:=by
  intro a
  have e:Aps []=fun r _=>some r:=by funext r p;simp [Aps]
  rw [e];exact Azt a
 induction σ with
 | nil=>rfl
 | cons e r ih=>obtain ⟨k,a⟩:=e;simp [Kv,ih,key]
theorem Aes {P:Program} {o:AOp} {ds:List Nat} {σ:St} {K:St→Prop} (h:Adg P o ds σ K):Sp P o (fun σ'=>K (Kv ds σ')) σ:=by
 unfold Adg at h
 split at h
 ·refine M4 (fun σ' hk=> ?_) (Anw h)
  rw [A0u];exact hk
 split at h
 case h_3=>exact h.elim
 ·obtain ⟨ys,σ1,hy,hk⟩:=Az5 h
  obtain ⟨v,σ2,hX,hk⟩:=V5 hk
  split at hk
  case h_2=>exact hk.elim
  split at hk
  case h_2=>exact hk.elim
  split at hk
  case h_2=>exact hk.elim
  rename_i hm
  have hm':=Nat.eq_of_beq_eq_true hm
  obtain ⟨h1,h2,h3⟩:=hk.h
  rw [Av] at h3
  simp only [Sp,Ack,Aa7,Ahd,Cd,A1g,hy,hX,hm',h1,h2]
  simpa using h3
 split at h
 case h_2=>exact h.elim
 rename_i hh hn
 obtain ⟨v,σ2,hX,hk⟩:=V5 h
 split at hk
 case h_2=>exact hk.elim
 split at hk
 case h_2=>exact hk.elim
 split at hk
 case h_2=>exact hk.elim
 rename_i hm
 have hm':=Nat.eq_of_beq_eq_true hm
 obtain ⟨_,h1,h2,h3⟩:=hk.h
 rw [Av] at h3
 simp only [Sp,Ack,Aa7,Ahd,Cd,A3p,hn,hX,hm',h1,h2,and_self,if_true]
 simpa using h3
structure Two (X Y:Prop):Prop where
 h:X∧Y
def Aoo (P:Program) (A:List (Nat×AOp)) (K:St→Prop) (pl:LPlan):Bool→St→Prop:=
 LPlan.rec (motive:=fun _=>Bool→St→Prop) (fun b σ=>match b with
  | true=>K σ
  | false=>True) (fun _ x xs ds _ ot ihn iho _ σ=>match ot with
    | .nil=>Ank xs σ (Adg P x ds σ (ihn true)) A
    | .alt .. => Two (Ank xs σ (Adg P x ds σ (ihn true)) A) (iho false σ)) pl
theorem Aqs : ∀ {A:List (Nat×AOp)} {K:St→Prop} {σ},Asv A K σ→Mq A K σ:=by
 intro A
 induction A with
 | nil=>intro K σ h;exact h
 | cons e r ih=>
   intro K σ h
   obtain ⟨i,x⟩:=e
   have h':Ak2 x σ fun d a=>match Aeo a with
    | true=>B6 (As d a σ) (Asv r K)
    | false=>False:=h
   obtain ⟨d,a,h1,h2⟩:=W7 h'
   simp only [Mq,h1]
   split at h2
   ·rename_i hu
    rw [Av] at h2
    exact ⟨hu,ih h2⟩
   ·exact h2.elim
theorem Ak5 {xs:List Nat} {σ:St} {K:Prop} : ∀ {A:List (Nat×AOp)},Ank xs σ K A→Axg A xs σ∧K:=by
 intro A
 induction A with
 | nil=>intro h;exact ⟨(fun e he=>by cases he),h⟩
 | cons e r ih=>
   intro h
   change (match xs.contains e.1 with
    | true=>Ak2 e.2 σ fun d a=>match Awo a d σ with
      | true=>SameQ (look σ d) a (Ank xs σ K r)
      | false=>False
    | false=>Ank xs σ K r) at h
   split at h
   ·obtain ⟨d,a,h1,h2⟩:=W7 h
    split at h2
    ·rename_i hu
     obtain ⟨h3,h4⟩:=h2.h
     obtain ⟨h5,h6⟩:=ih h4
     refine ⟨fun f hf hx=> ?_,h6⟩
     rcases List.mem_cons.1 hf with rfl | hf
     ·exact ⟨d,a,h1,h3,hu⟩
     ·exact h5 f hf hx
    ·exact h2.elim
   ·rename_i hx
    obtain ⟨h5,h6⟩:=ih h
    refine ⟨fun f hf hx2=> ?_,h6⟩
    rcases List.mem_cons.1 hf with rfl | hf
    ·rw [hx] at hx2;cases hx2
    ·exact h5 f hf hx2
theorem Asp {P:Program} {A:List (Nat×AOp)} {K:St→Prop} : ∀ {pl:LPlan} {b:Bool} {σ},Aoo P A K pl b σ→Ri P A K pl b σ:=by
 intro pl
 induction pl with
 | nil=>intro b σ h hb;subst hb;exact h
 | alt i x xs ds nx ot ih1 ih2=>
   intro b σ h
   cases ot with
   | nil=>
     change Ank xs σ (Adg P x ds σ (Aoo P A K nx true)) A at h
     obtain ⟨h1,h2⟩:=Ak5 h
     exact ⟨⟨h1,M4 (fun _=>ih1) (Aes h2)⟩,fun hb=>by cases hb⟩
   | alt j y ys es ny oy=>
     change Two (Ank xs σ (Adg P x ds σ (Aoo P A K nx true)) A) (Aoo P A K (.alt j y ys es ny oy) false σ) at h
     obtain ⟨h1,h2⟩:=Ak5 h.h.1
     exact ⟨⟨h1,M4 (fun _=>ih1) (Aes h2)⟩,ih2 h.h.2⟩
def Auz:List Nat→(St→Prop)→St→Prop
 | [],K,σ=>K σ
 | e::r,K,σ=>match look σ (e%100000) with
   | .val T=>FrzQ T (e/100000) fun T'=>B6 (As (e%100000) (.val T') (As (e%100000) .top σ)) (Auz r K)
   | .ref q []=>(match look σ q with
     | .val T=>(match Nat.blt q 100000 with
       | true=>FrzQ T 0 fun T'=>B6 (As (e%100000) (.val T') (As (e%100000) .top (As q (.val T') (As q .top σ)))) (Auz r K)
       | false=>Auz r K σ)
     | _=>Auz r K σ)
   | _=>Auz r K σ
theorem Ayd : ∀ {ss:List Nat} {K:St→Prop} {σ:St},Auz ss K σ→K (A3o ss σ):=by
 intro ss
 induction ss with
 | nil=>intro K σ h;exact h
 | cons e r ih=>
   intro K σ h
   simp only [Auz] at h
   simp only [A3o]
   split at h
   ·rename_i T hT
    obtain ⟨T',h1,h2⟩:=h.h
    subst h1
    rw [Av] at h2
    simp only [Ap5,Alq,hT]
    exact ih h2
   ·rename_i q hT
    split at h
    ·rename_i T hq
     split at h
     ·rename_i hb
      obtain ⟨T',h1,h2⟩:=h.h
      rw [Gp] at h1
      subst h1
      rw [Av] at h2
      simp only [Ap5,hT,hq,hb]
      exact ih h2
     ·rename_i hb
      simp only [Ap5,hT,hq,hb]
      exact ih h
    ·rename_i hne
     have e2:Ap5 e σ=σ:=by
      simp only [Ap5,hT]
     rw [e2]
     exact ih h
   ·rename_i hne hne2
    have e2:Ap5 e σ=σ:=by
     unfold Ap5
     split
     ·rename_i q hq;exact absurd hq (hne2 q)
     ·unfold Alq
      split
      ·rename_i V hV;exact absurd hV (hne V)
      ·rfl
    rw [e2]
    exact ih h
structure LoopQ (P:Program) (c:ACode) (Q:Ex→St→Prop) (σ:St):Prop where
 h:awp P (.loop c) Q σ
structure CutQ (P:Program) (c:ACode) (Q:Ex→St→Prop) (σ:St):Prop where
 h:awp P (.cut c) Q σ
def vc (P:Program):ACode→(Ex→St→Prop)→St→Prop
 | .skip,Q,σ=>Q .normal σ
 | .reg gs,Q,σ=>Ul P gs (Q .normal) σ
 | .dreg pre post,Q,σ=>Ar7 P (Vz pre) σ pre [] [] [] (Ul P post (Q .normal))
 | .dregp n0 ds pre post,Q,σ=>Ul P ((pre.take n0).map (·.1)) (fun σ1=>match Ai4 n0 (Kv ds σ1) with
   | true=>B6 (Kv ds σ1) fun σ2=>B6 (Zz n0) fun acc=>Ar7 P (Vz pre) σ2 (pre.drop n0) acc [] [] (Ul P post (Q .normal))
   | false=>False) σ
 | .seq a b,Q,σ=>vc P a (Aeu (vc P b Q) Q) σ
 | .cond x t e,Q,σ=>match Ah σ x with
   | .val (.bool b)=>Br b (B6 (A7q x true σ) (vc P t Q)) (B6 (A7q x false σ) (vc P e Q))
   | _=>False
 | .block i c,Q,σ=>vc P c (At8 i Q) σ
 | .loop c,Q,σ=>LoopQ P c Q σ
 | .exit i,Q,σ=>Q (.exit i) σ
 | .ret,Q,σ=>Q .ret σ
 | .drop ds c,Q,σ=>B6 (Kv ds σ) (vc P c Q)
 | .cut c,Q,σ=>CutQ P c Q σ
 | .dregl A pl,Q,σ=>Asv A (Aoo P A (Q .normal) pl true) σ
 | .frz ss c,Q,σ=>Auz ss (vc P c Q) σ
theorem Azg {x:X} {b:Bool} {σ:St} (h:Ah σ x = .val (.bool b)):A7q x b σ=σ:=by
 cases x with
 | c v=>rfl
 | t s=>
   refine Tk ?_
   simp only [Ah] at h
   split at h
   ·rename_i v hv
    split at h
    ·cases h
    ·rw [hv];exact h
   ·exact h
theorem X4 {P:Program} : ∀ {c:ACode} {Q:Ex→St→Prop} {σ:St},vc P c Q σ→awp P c Q σ:=by
 intro c
 induction c with
 | skip=>intro Q σ h;exact h
 | reg gs=>intro Q σ h;exact W9 h
 | dreg pre post=>intro Q σ h;exact Vo (fun _=>W9) (Alf rfl rfl (by simp) h)
 | dregp n0 ds pre post=>
   intro Q σ h
   refine Se (fun σ1 h1=> ?_) (W9 h)
   split at h1
   ·rename_i hd
    rw [Av,Av] at h1
    refine ⟨hd,Vo (fun _=>W9) (Alf (by simp) (by simp) (by simp) h1)⟩
   ·exact h1.elim
 | seq a b ih1 ih2=>
   intro Q σ h
   have h':vc P a (Aeu (vc P b Q) Q) σ:=h
   show awp P a (Aeu (awp P b Q) Q) σ
   exact U8 (Q:=Aeu (vc P b Q) Q) (Ra (fun _ hh=>ih2 hh) fun _ _=>id) (ih1 h')
 | cond x t e ih1 ih2=>
   intro Q σ h
   simp only [vc] at h
   simp only [awp]
   split at h
   ·rename_i b hb
    simp only [hb]
    refine ⟨fun e=> ?_,fun e=> ?_⟩
    ·subst e
     have:=h.t rfl
     rw [Av,Azg hb] at this
     exact ih1 this
    ·subst e
     have:=h.f rfl
     rw [Av,Azg hb] at this
     exact ih2 this
   ·exact h.elim
 | block i c ih=>intro Q σ h;exact ih h
 | loop c ih=>intro Q σ h;exact h.h
 | exit i=>intro Q σ h;exact h
 | ret=>intro Q σ h;exact h
 | drop ds c ih=>intro Q σ h;simp only [vc] at h;rw [Av] at h;exact ih h
 | cut c ih=>intro Q σ h;exact h.h
 | frz ss c ih=>intro Q σ h;simp only [vc] at h;exact ih (Ayd h)
 | dregl A R=>intro Q σ h;exact Aer (fun _=>Asp) (Aqs h)
theorem Aob {P:Program} {f N:Nat} {ac:ACode} {rs:List RS} {args:List V} {R:V→List V→Prop} (hf:A7 P f N ac rs=true) (hn:args.length≤N)
  (h:vc P ac (Aog N rs args R) (entry N 0 args)):Tri P f args R:=A5a hf hn (X4 h)
theorem A58 {P:Program} {f N m j:Nat} {ac:ACode} {rs:List RS} {args:List V} {R:V→List V→Prop} (hf:A7 P f N ac rs=true) (hn:args.length≤N) (hj:m+j<args.length)
  (h:vc P ac (Aog N rs args R) (Axd N m j f args)):Ao8 P f m j args R:=A1e hf hn hj (X4 h)
def A87 {α:Type} (ks:List Nat) (st:α→St) (inv:α→Prop) (μ:α→Nat) (a:α) (σ:St):Prop := ∃b,restrict ks σ=st b∧inv b∧μ b<μ a
theorem LoopQ.by {α:Type} {P:Program} {c:ACode} {Q:Ex→St→Prop} {σ:St} (ks:List Nat) (st:α→St) (inv:α→Prop) (μ:α→Nat) (a0:α) (h0:restrict ks σ=st a0) (hi:inv a0)
  (hr : ∀a,inv a→vc P c (Aeu (A87 ks st inv μ a) Q) (st a)):LoopQ P c Q σ:=by
 refine ⟨A42 ks (fun n σ => ∃a,σ=st a∧inv a∧n=μ a) (μ a0) ⟨a0,h0,hi,rfl⟩ ?_⟩
 rintro n σ ⟨a,rfl,ha,rfl⟩
 refine U8 (Ra ?_ fun _ _=> .inl) (X4 (hr a ha))
 rintro σ' ⟨b,h1,h2,h3⟩
 exact ⟨μ b,h3,b,h1,h2,rfl⟩
def Ret (P:Program) (f:Nat) (vs:List V) (v:V):Prop:=Tri P f vs (fun r _=>r=v)
theorem A6 {P:Program} {f N:Nat} {ac:ACode} {rs:List RS} {args:List V} {v:V} (hf:A7 P f N ac rs=true) (hn:args.length≤N)
  (h:vc P ac (Aog N rs args fun r _=>r=v) (entry N 0 args)):Ret P f args v:=Aob hf hn h
abbrev Af (n:Int):V:= .int .i64 n
end Go.Proofs.Ytpfikenknmlajaa.Ax
namespace Go.Proofs.Ytpfikenknmlajaa.Ax
open Go
noncomputable def ask {α:Type} (p:Prop) (x:Option α):Option α:=@ite _ p (Classical.propDecidable p) x none
def nth {α:Type} [Inhabited α] (xs:List α) (i:Nat):α:=xs.getD i default
theorem Yl {α:Type} {p:Prop} {x:Option α} {v:α}:ask p x=some v↔p∧x=some v:=by
 unfold ask;split<;>simp_all
theorem Ae {α:Type} {p:Prop} {x:Option α} (h:p):ask p x=x:=by unfold ask;rw [if_pos h]
def Amc {σ τ:Type} (body:σ→Option (σ ⊕ τ)):Nat→σ→Option τ
 | 0,_=>none
 | n+1,s=>match body s with
   | none=>none
   | some (.inl s')=>Amc body n s'
   | some (.inr t)=>some t
theorem Ay9 {σ τ:Type} {body:σ→Option (σ ⊕ τ)} : ∀ {n m:Nat} {s:σ} {t:τ},n≤m→Amc body n s=some t→Amc body m s=some t:=by
 intro n
 induction n with
 | zero=>intro m s t _ h;cases h
 | succ n ih=>
   intro m s t hm h
   match m,hm with
   | m+1,hm=>
     simp only [Amc] at h ⊢
     split at h
     ·cases h
     ·exact ih (by omega) h
     ·exact h
open Classical in
noncomputable def Aj {σ τ:Type} (body:σ→Option (σ ⊕ τ)) (s:σ):Option τ:=if h : ∃t n,Amc body n s=some t then some (Classical.choose h) else none
theorem Q0 {σ τ:Type} {body:σ→Option (σ ⊕ τ)} {s:σ} {t:τ}:Aj body s=some t ↔ ∃n,Amc body n s=some t:=by
 unfold Aj
 constructor
 ·intro h
  split at h
  ·rename_i hx
   cases h
   exact Classical.choose_spec hx
  cases h
 rintro ⟨n,hn⟩
 rw [dif_pos ⟨t,n,hn⟩]
 obtain ⟨m,hm⟩:=Classical.choose_spec (⟨t,n,hn⟩ : ∃t n,Amc body n s=some t)
 have h1:=Ay9 (Nat.le_max_left n m) hn
 have h2:=Ay9 (Nat.le_max_right n m) hm
 rw [h1] at h2
 exact h2.symm
theorem Auw {σ τ:Type} (body:σ→Option (σ ⊕ τ)) (s:σ):Aj body s=(match body s with
  | none=>none
  | some (.inl s')=>Aj body s'
  | some (.inr t)=>some t):=by
 apply Option.ext
 intro t
 rw [Q0]
 constructor
 ·rintro ⟨n,hn⟩
  cases n with
  | zero=>cases hn
  | succ n=>
    simp only [Amc] at hn
    split at hn
    ·cases hn
    ·exact Q0.2 ⟨n,hn⟩
    ·exact hn
 intro h
 split at h
 ·cases h
 ·rename_i s' e
  obtain ⟨n,hn⟩:=Q0.1 h
  exact ⟨n+1,by simp only [Amc,e];exact hn⟩
 rename_i t' e
 exact ⟨1,by simp only [Amc,e];exact h⟩
def upO {α:Type} (f:Nat→Option α):Prop := ∀n m v,n≤m→f n=some v→f m=some v
open Classical in
noncomputable def Afn {α:Type} (f:Nat→Option α):Option α:=if h : ∃v n,f n=some v then some (Classical.choose h) else none
theorem Aj4 {α:Type} {f:Nat→Option α} {v:α} (h:Afn f=some v) : ∃n,f n=some v:=by
 unfold Afn at h
 split at h
 ·rename_i hx
  cases h
  exact Classical.choose_spec hx
 cases h
theorem At4 {α:Type} {f:Nat→Option α} (hu:upO f) {v:α} {n:Nat} (h:f n=some v):Afn f=some v:=by
 unfold Afn
 rw [dif_pos ⟨v,n,h⟩]
 obtain ⟨m,hm⟩:=Classical.choose_spec (⟨v,n,h⟩ : ∃v n,f n=some v)
 have h1:=hu _ _ _ (Nat.le_max_left n m) h
 have h2:=hu _ _ _ (Nat.le_max_right n m) hm
 rw [h1] at h2
 exact h2.symm
abbrev Ar (α:Type):List α:=[]
abbrev slr {α:Type} (o:Bool) (m:Nat) (f:α→V) (xs:List α):V:= .sl o m (xs.map f)
class Fz {α:Type} (f:α→V) (g:outParam (α→V)):Prop where
 eq : ∀x,(f x).fz=g x
instance {k:IntKind}:Fz (V.int k) (V.int k):=⟨fun _=>rfl⟩
instance:Fz Af Af:=⟨fun _=>rfl⟩
instance:Fz V.bool V.bool:=⟨fun _=>rfl⟩
instance:Fz V.str V.str:=⟨fun _=>rfl⟩
theorem Ab {α:Type} (f:α→V) {g:α→V} [Fz f g] (xs:List α):fzL (xs.map f)=xs.map g:=by
 induction xs with
 | nil=>rfl
 | cons x r ih=>simp [fzL,Fz.eq,ih]
instance {α:Type} (m:Nat) (f g:α→V) [Fz f g]:Fz (slr true m f) (slr false m g):=⟨fun x=>by simp [slr,V.fz,Ab]⟩
instance {α:Type} (m:Nat) (f:α→V):Fz (slr false m f) (slr false m f):=⟨fun x=>by simp [slr,V.fz]⟩
theorem Ac {α:Type} (m:Nat) (f:α→V) {g:α→V} [Fz f g] (xs:List α):V.fz (.sl true m (xs.map f)) = .sl false m (xs.map g):=by simp [V.fz,Ab]
theorem Ad {α:Type} (f:α→V) {g:α→V} [Fz f g] (x:α):V.fz (f x)=g x:=Fz.eq x
abbrev rA2 {α:Type} (f:α→V) (p:α×α):V:= .agg [f p.1,f p.2]
abbrev rA3 {α:Type} (f:α→V) (p:α×α×α):V:= .agg [f p.1,f p.2.1,f p.2.2]
abbrev rP {α:Type} (o:Bool) (f:α→V) (x:α):V:= .ptr o (f x)
abbrev rO {α:Type} (o:Bool) (f:α→V):Option α→V
 | none=> .nilp
 | some x=> .ptr o (f x)
abbrev rOl {α:Type} (m:Nat) (f:α→V):Option (List α)→V
 | none=> .nl m
 | some xs=> .sl false m (xs.map f)
abbrev rMp {β:Type} (o:Bool) (f:β→Lf) (l:List (ByteArray×β)):V:= .mp o (l.map fun e=>(e.1,f e.2))
instance {β:Type} (o:Bool) (f:β→Lf):Fz (rMp o f) (rMp false f):=⟨fun x=>by simp [V.fz]⟩
theorem LkQ.one {β:Type} (f:β→Lf) (g:β→V) (l:List (ByteArray×β)) (z0:β) {es:List (ByteArray×Lf)} {s:ByteArray} {z:Lf} {K:V→Prop} (e:es=l.map fun e=>(e.1,f e.2)) (hz:z=f z0) (hg : ∀b,(f b).v=g b)
  (h:K (g ((Ks l s).getD z0))):LkQ es s z false K:=by
 subst e;subst hz
 refine ⟨?_⟩
 unfold Aw1
 rw [Akm,Option.getD_map,hg]
 exact h
theorem LkQ.two {β:Type} (f:β→Lf) (g:β→V) (l:List (ByteArray×β)) (z0:β) {es:List (ByteArray×Lf)} {s:ByteArray} {z:Lf} {K:V→Prop} (e:es=l.map fun e=>(e.1,f e.2)) (hz:z=f z0) (hg : ∀b,(f b).v=g b)
  (h:K (.tup [g ((Ks l s).getD z0),.bool (Ks l s).isSome])):LkQ es s z true K:=by
 subst e;subst hz
 refine ⟨?_⟩
 unfold Aw1
 rw [Akm,Option.getD_map,hg,Option.isSome_map]
 exact h
theorem MsQ.o {β:Type} (f:β→Lf) (l:List (ByteArray×β)) (b:β) {es:List (ByteArray×Lf)} {s:ByteArray} {x:Lf} {K:List (ByteArray×Lf)→Prop} (e:es=l.map fun e=>(e.1,f e.2)) (hx:x=f b)
  (h:K ((Wp l s b).map fun e=>(e.1,f e.2))):MsQ es s x K:=by
 subst e;subst hx
 exact ⟨by rw [Arg];exact h⟩
theorem BsQ.o (ns:List Int) {xs:List V} {K:ByteArray→Prop} (e:xs=ns.map (V.int .u8)) (h:K (Ano ns)):BsQ xs K:=by
 subst e
 exact ⟨ns,Axr ns,h⟩
instance {α:Type} (f g:α→V) [Fz f g]:Fz (rP true f) (rP false g):=⟨fun x=>by simp [V.fz,Fz.eq]⟩
instance {α:Type} (m:Nat) (f:α→V):Fz (rOl m f) (rOl m f):=⟨fun x=>by cases x<;>simp [rOl,V.fz]⟩
instance {α:Type} (f g:α→V) [Fz f g]:Fz (rO true f) (rO false g):=⟨fun x=>by cases x<;>simp [rO,V.fz,Fz.eq]⟩
instance {α:Type} (f g:α→V) [Fz f g]:Fz (rA2 f) (rA2 g):=⟨fun x=>by simp [V.fz,fzL,Fz.eq]⟩
instance {α:Type} (f g:α→V) [Fz f g]:Fz (rA3 f) (rA3 g):=⟨fun x=>by simp [V.fz,fzL,Fz.eq]⟩
def One {α:Type} (f:α→V):Prop := ∀x,(f x).cells=[f x]∧(f x).isAgg=false
def Akq {α:Type} (m:Nat) (f:α→V):Prop := ∀x,(f x).cells.length=m∧D5 (f x).cells=true
section
variable {α ρ:Type} {v:ρ} {x y:Option ρ} {X Y:Prop}
theorem Br.od {p:Prop} [Decidable p] (h:(if p then x else y)=some v) (h1:p→x=some v→X) (h2:¬p→y=some v→Y):Br (decide p) X Y:=by
 by_cases hp:p
 ·rw [if_pos hp] at h;exact ⟨fun _=>h1 hp h,fun e=>absurd hp (of_decide_eq_false e)⟩
 rw [if_neg hp] at h;exact ⟨fun e=>absurd (of_decide_eq_true e) hp,fun _=>h2 hp h⟩
theorem Br.oe {a b:Int} (h:(if a=b then x else y)=some v) (h1:a=b→x=some v→X) (h2:¬a=b→y=some v→Y):Br (a==b) X Y:=by
 have:(a==b)=decide (a=b):=by rw [Bool.eq_iff_iff];simp
 rw [this];exact Br.od h h1 h2
theorem Br.on {a b:Int} (h:(if a≠b then x else y)=some v) (h1:a≠b→x=some v→X) (h2:¬a≠b→y=some v→Y):Br (a != b) X Y:=by
 have:(a != b)=decide (a≠b):=by rw [Bool.eq_iff_iff];simp
 rw [this];exact Br.od h h1 h2
theorem Br.ob {b:Bool} (h:(if b=true then x else y)=some v) (h1:b=true→x=some v→X) (h2:¬b=true→y=some v→Y):Br b X Y:=by
 cases b
 ·exact ⟨fun e=>Bool.noConfusion e,fun _=>h2 (by simp) (by simpa using h)⟩
 exact ⟨fun _=>h1 rfl (by simpa using h),fun e=>Bool.noConfusion e⟩
theorem Br.flip {b:Bool} (h:Br b Y X):Br (!b) X Y:=by
 cases b
 ·exact ⟨fun _=>h.f rfl,fun e=>Bool.noConfusion e⟩
 exact ⟨fun e=>Bool.noConfusion e,fun _=>h.t rfl⟩
theorem Ask.o {p:Prop} (h:ask p x=some v) (hk:p→x=some v→X):Ask p X:=by
 obtain ⟨h1,h2⟩:=Yl.1 h
 exact ⟨h1,hk h1 h2⟩
theorem Idx.o {j:Int} {lo n:Nat} {K:Int→Prop} (h:(if j=lo then x else y)=some v) (h1:x=some v→K lo) (h2:y=some v→Idx j (lo+1) n K):Idx j lo n K:=by
 refine ⟨fun a b=> ?_⟩
 by_cases hj:j=lo
 ·rw [if_pos hj] at h;rw [hj];exact h1 h
 rw [if_neg hj] at h;exact (h2 h).h (by omega) b
theorem Idx.lit {j:Int} {lo n:Nat} {K:Int→Prop} (h:K j):Idx j lo n K:=⟨fun _ _=>h⟩
theorem Len.mrep {f:α→V} {w:α} {n:Nat} {K:Nat→Prop} (h:K n):Len ((List.replicate n w).map f) K:=⟨by rw [List.length_map,List.length_replicate];exact h⟩
theorem Len.nil {K:Nat→Prop} (h:K 0):Len [] K:=⟨h⟩
theorem Len.cons {u:V} {us:List V} {K:Nat→Prop} (h:Len us fun n=>K (n+1)):Len (u::us) K:=⟨h.h⟩
variable {f:α→V}
theorem A63 [Inhabited α] (f:α→V) {xs:List α} {j:Nat} (hj:j<xs.length):(xs.map f).getD j .dead=f (nth xs j):=by
 simp [List.getD_eq_getElem?_getD,nth,hj]
theorem Elem.o [Inhabited α] {xs:List α} {j:Nat} {K:V→Prop} (hj:j<xs.length) (hk:K (f (nth xs j))):Elem (xs.map f) j K:=⟨by rw [A63 f hj];exact hk⟩
theorem Ah0 (hf:One f) (xs:List α):Bq (xs.map f)=xs.map f:=by
 induction xs with
 | nil=>rfl
 | cons x r ih=>simp only [List.map_cons,Bq,(hf x).1,ih];rfl
theorem A4f [Inhabited α] (f:α→V) {xs:List α} {c:Nat} (hc:c<xs.length):(xs.map f).drop c=f (nth xs c)::(xs.map f).drop (c+1):=by
 rw [List.drop_eq_getElem_cons (by simpa using hc)]
 simp [nth,List.getD_eq_getElem?_getD,hc]
theorem Cells.one [Inhabited α] (hf:One f) {xs:List α} {c:Nat} {K:List V→Prop} (hc:c<xs.length) (hk:K [f (nth xs c)]):Cells (Bq (xs.map f)) c 1 K:=by
 refine ⟨_,?_,?_,hk⟩
 ·rw [Ah0 hf,List.length_map];exact hc
 rw [Ah0 hf,A4f f hc];rfl
theorem Arx [Inhabited α] {m:Nat} (hf:Akq m f) : ∀ {xs:List α} {i:Nat},i<xs.length → ∃l r,Bq (xs.map f)=l++((f (nth xs i)).cells++r)∧l.length=i*m:=by
 intro xs
 induction xs with
 | nil=>intro i h;simp at h
 | cons x t ih=>
   intro i h
   cases i with
   | zero=>exact ⟨[],Bq (t.map f),rfl,by simp⟩
   | succ i=>
     obtain ⟨l,r,e,hl⟩:=ih (i:=i) (by simpa using h)
     refine ⟨(f x).cells++l,r,by simp only [List.map_cons,Bq,e,List.append_assoc];rfl,?_⟩
     rw [List.length_append,(hf x).1,hl,Nat.succ_mul];omega
theorem Cells.wide [Inhabited α] {m:Nat} (hf:Akq m f) {xs:List α} {i off n:Nat} {K:List V→Prop} (hi:i<xs.length) (hn:off+n≤m) (hk:K (((f (nth xs i)).cells.drop off).take n)) :
  Cells (Bq (xs.map f)) (Ak i m+off) n K:=by
 obtain ⟨l,r,e,hl⟩:=Arx hf hi
 have hw:=(hf (nth xs i)).1
 refine ⟨_,?_,?_,hk⟩
 ·rw [e,Adf,List.length_append,List.length_append,hl,hw];omega
 rw [e,Adf,←hl,←List.drop_drop,List.drop_left,List.drop_append_of_le_length (by omega),List.take_append_of_le_length (by simp;omega)]
theorem Cells.wide0 [Inhabited α] {m:Nat} (hf:Akq m f) {xs:List α} {i n:Nat} {K:List V→Prop} (hi:i<xs.length) (hn:n≤m) (hk:K ((f (nth xs i)).cells.take n)) :
  Cells (Bq (xs.map f)) (Ak i m) n K:=Cells.wide (off:=0) hf hi (by omega) hk
theorem Cells.lit {xs us:List V} {c n:Nat} {K:List V→Prop} (h:Nat.ble (c+n) xs.length=true) (e:(xs.drop c).take n=us) (hk:K us):Cells xs c n K:=⟨us,Nat.le_of_ble_eq_true h,e,hk⟩
theorem Kid.one [Inhabited α] (hf:One f) {m:Nat} {xs:List α} {c:Nat} {K:V→Prop} (hc:c<xs.length) (hk:K (f (nth xs c))):Kid (.sl true m (xs.map f)) c K:=
 ⟨_,rfl,by simp only [V.kids,Ah0 hf];simp [nth,List.getD_eq_getElem?_getD,hc],hk⟩
theorem Kid.wide [Inhabited α] {m:Nat} (hf:Akq m f) {xs:List α} {i off:Nat} {u:V} {K:V→Prop} (hi:i<xs.length) (hu:(f (nth xs i)).cells[off]? = some u) (hk:K u):Kid (.sl true m (xs.map f)) (Ak i m+off) K:=by
 obtain ⟨l,r,e,hl⟩:=Arx hf hi
 refine ⟨u,rfl,?_,hk⟩
 have ho:off<(f (nth xs i)).cells.length:=(List.getElem?_eq_some_iff.1 hu).1
 simp only [V.kids,e]
 rw [Adf,List.getElem?_append_right (by omega),hl,Nat.add_sub_cancel_left,List.getElem?_append_left ho,hu]
theorem Kid.lit {T k:V} {c:Nat} {K:V→Prop} (h1:T.stepOk=true) (h2:T.kids[c]? = some k) (hk:K k):Kid T c K:=⟨k,h1,h2,hk⟩
theorem A0v (hf:One f) : ∀ {xs:List α} {c:Nat} (w:α),c<xs.length→Wj (xs.map f) c [f w]=some ((xs.set c w).map f):=by
 intro xs
 induction xs with
 | nil=>intro c w h;simp at h
 | cons x r ih=>
   intro c w h
   have hlen:(f x).cells.length=1:=by rw [(hf x).1];rfl
   simp only [List.map_cons,Wj,hlen]
   cases c with
   | zero=>
     have:(f x).setCells 0 [f w]=some (f w):=by
      have hx:=(hf x).2
      have hv:=(hf w).2
      unfold V.setCells
      split
      ·simp_all [V.isAgg]
      ·simp [Akb,hv]
     simp [this]
   | succ c=>
     have:=ih (c:=c) w (by simpa using h)
     simp [this]
theorem Aw6 (hf:One f) : ∀ {xs:List α} {c:Nat},c<xs.length→Wj (xs.map f) c [.dead]=some ((xs.map f).set c .dead):=by
 intro xs
 induction xs with
 | nil=>intro c h;simp at h
 | cons x r ih=>
   intro c h
   have hlen:(f x).cells.length=1:=by rw [(hf x).1];rfl
   simp only [List.map_cons,Wj,hlen]
   cases c with
   | zero=>
     have:(f x).setCells 0 [.dead]=some .dead:=by
      have hx:=(hf x).2
      unfold V.setCells
      split
      ·simp_all [V.isAgg]
      ·simp [Akb,V.isAgg]
     simp [this]
   | succ c=>
     have:=ih (c:=c) (by simpa using h)
     simp [this]
theorem Ax2 (hf:One f) : ∀ {xs:List α} {c:Nat} (w:α),c<xs.length→Wj ((xs.map f).set c .dead) c [f w]=some ((xs.set c w).map f):=by
 intro xs
 induction xs with
 | nil=>intro c w h;simp at h
 | cons x r ih=>
   intro c w h
   have hlen:(f x).cells.length=1:=by rw [(hf x).1];rfl
   cases c with
   | zero=>
     simp only [List.map_cons,List.set_cons_zero,Wj]
     simp [V.cells,V.setCells,Akb,(hf w).2]
   | succ c=>
     have:=ih (c:=c) w (by simpa using h)
     simp [Wj,hlen,this]
theorem Len.hole {xs:List α} {i:Nat} {K:Nat→Prop} (h:K xs.length):Len (Are f xs i) K:=⟨by simp only [Are,List.length_set,List.length_map];exact h⟩
theorem SetKids.mkhole (hf:One f) {o:Bool} {m:Nat} {xs:List α} {c:Nat} {K:V→Prop} (hc:c<xs.length) (hk:K (.sl o m (Are f xs c))):SetKids (.sl o m (xs.map f)) c [.dead] K:=
 ⟨_,by simp only [V.setKids,Aw6 hf hc,Option.map_some,Are],hk⟩
theorem SetKids.fill (hf:One f) {o:Bool} {m:Nat} {xs:List α} {c:Nat} {us:List V} {K:V→Prop} (w:α) (e:us=[f w]) (hc:c<xs.length) (hk:K (.sl o m ((xs.set c w).map f))):SetKids (.sl o m (Are f xs c)) c us K:=by
 subst e
 exact ⟨_,by simp only [V.setKids,Are,Ax2 hf w hc,Option.map_some],hk⟩
theorem SetKids.one (hf:One f) {o:Bool} {m:Nat} {xs:List α} {c:Nat} {us:List V} {K:V→Prop} (w:α) (e:us=[f w]) (hc:c<xs.length) (hk:K (.sl o m ((xs.set c w).map f))):SetKids (.sl o m (xs.map f)) c us K:=by
 subst e
 exact ⟨_,by simp only [V.setKids,A0v hf w hc,Option.map_some],hk⟩
theorem Aw0 [Inhabited α] {m:Nat} (hf:Akq m f) : ∀ {xs:List α} {i off:Nat} {us:List V} (w:α),i<xs.length→(f (nth xs i)).setCells off us=some (f w)→off<m→Wj (xs.map f) (i*m+off) us=some ((xs.set i w).map f):=by
 intro xs
 induction xs with
 | nil=>intro i off us w h;simp at h
 | cons x r ih=>
   intro i off us w h hs ho
   simp only [List.map_cons,Wj,(hf x).1]
   cases i with
   | zero=>
     have hs':(f x).setCells off us=some (f w):=hs
     simp [ho,hs']
   | succ i=>
     have:=ih (i:=i) (off:=off) (us:=us) w (by simpa using h) hs ho
     rw [if_neg (by rw [Nat.succ_mul];omega),show (i+1)*m+off-m=i*m+off by rw [Nat.succ_mul];omega,this]
     simp
theorem SetKids.wide [Inhabited α] {m:Nat} (hf:Akq m f) {o:Bool} {xs:List α} {i off:Nat} {us:List V} {K:V→Prop} (w:α) (hi:i<xs.length) (hs:(f (nth xs i)).setCells off us=some (f w)) (ho:off<m) (hk:K (.sl o m ((xs.set i w).map f))) :
  SetKids (.sl o m (xs.map f)) (Ak i m+off) us K:=
 ⟨_,by simp only [V.setKids,Adf,Aw0 hf w hi hs ho,Option.map_some],hk⟩
theorem SetKids.wide0 [Inhabited α] {m:Nat} (hf:Akq m f) {o:Bool} {xs:List α} {i:Nat} {us:List V} {K:V→Prop} (w:α) (hi:i<xs.length) (hs:(f (nth xs i)).setCells 0 us=some (f w)) (ho:0<m) (hk:K (.sl o m ((xs.set i w).map f))) :
  SetKids (.sl o m (xs.map f)) (Ak i m) us K:=SetKids.wide (off:=0) hf w hi hs ho hk
theorem SetKids.lit {T T':V} {c:Nat} {us:List V} {K:V→Prop} (h:T.setKids c us=some T') (hk:K T'):SetKids T c us K:=⟨T',h,hk⟩
theorem MkQ.o {d n:Nat} {z:V} {K:List V→Prop} (f:α→V) (w:α) (e:z=f w) (hk:K ((List.replicate n w).map f)):MkQ d n z K:=⟨by rw [e,←List.map_replicate];exact hk⟩
theorem Ayh {m:Nat} (hf:Akq m f) (ws:List α):Sg m (ws.map f)=true:=by
 induction ws with
 | nil=>rfl
 | cons w r ih=>simp [Sg,(hf w).1,(hf w).2,ih]
theorem BslQ.o {d m:Nat} {us:List V} {K:List V→Prop} (f:α→V) (ws:List α) (hf:Akq m f) (e:us=ws.map f) (hk:K (ws.map f)):BslQ d m us K:=by
 subst e;exact ⟨Ayh hf ws,hk⟩
theorem BslQ.lit {d m:Nat} {us:List V} {K:List V→Prop} (e:Sg m us=true) (hk:K us):BslQ d m us K:=⟨e,hk⟩
theorem At1 {m:Nat} (hf:Akq m f) (ws:List α):D5 (Bq (ws.map f))=true:=by
 induction ws with
 | nil=>rfl
 | cons w r ih=>
   have:=(hf w).2
   simp only [D5,List.map_cons,Bq,List.all_append,Bool.and_eq_true] at this ih ⊢
   exact ⟨this,ih⟩
theorem AppQ.o {m d:Nat} {us vs:List V} {K:List V→Prop} (f:α→V) (hf:Akq m f) (xs ys:List α) (ex:us=xs.map f) (ey:vs=ys.map f) (h:ask (xs.length+ys.length≤LIM) x=some v) (hk:x=some v→K ((xs++ys).map f)):AppQ d us vs K:=by
 subst ex;subst ey
 obtain ⟨h1,h2⟩:=Yl.1 h
 exact ⟨At1 hf ys,by simpa using h1,by rw [←List.map_append];exact hk h2⟩
theorem Alj (hf : ∀x,Bc (f x).cells=false) (ws:List α):Bc (Bq (ws.map f))=false:=by
 induction ws with
 | nil=>rfl
 | cons w r ih=>simp only [List.map_cons,Bq,Im,hf w,ih];rfl
theorem SlcQ.o {l h:Int} {xs:List α} {K:List V→Prop} (f:α→V) (hh:ask (0≤l∧l≤h∧h≤(xs.length:Int)) x=some v) (hk:x=some v→K (((xs.drop l.toNat).take (h.toNat-l.toNat)).map f)):SlcQ (xs.map f) l h K:=by
 obtain ⟨⟨h1,h2,h3⟩,h4⟩:=Yl.1 hh
 exact ⟨h1,h2,by simpa using h3,by rw [←List.map_drop,←List.map_take];exact hk h4⟩
theorem NoOwn.o (hf : ∀x,Bc (f x).cells=false) {ws:List α} (h:X):NoOwn (ws.map f) X Y:=⟨.inl ⟨Alj hf ws,h⟩⟩
theorem NoOwn.lit {us:List V} (e:Bc (Bq us)=false) (h:X):NoOwn us X Y:=⟨.inl ⟨e,h⟩⟩
theorem NoOwn.own {us:List V} (e:Bc (Bq us)=true) (h:Y):NoOwn us X Y:=⟨.inr ⟨e,h⟩⟩
end
def Aey (P:Program) (f:Nat) (vs:List V) (v:V) (k:Nat) (u:V):Prop:=Tri P f vs (fun r o=>r=v∧o[k]? = some u)
theorem Aij {P:Program} {f N:Nat} {ac:ACode} {rs:List RS} {args:List V} {v u:V} {k:Nat} (hf:A7 P f N ac rs=true) (hn:args.length≤N)
  (h:vc P ac (Aog N rs args fun r o=>r=v∧o[k]? = some u) (entry N 0 args)):Aey P f args v k u:=Aob hf hn h
def Anf (P:Program) (f:Nat) (vs:List V) (v:V) (k1:Nat) (u1:V) (k2:Nat) (u2:V):Prop:=Tri P f vs (fun r o=>r=v∧o[k1]? = some u1∧o[k2]? = some u2)
theorem A28 {P:Program} {f N:Nat} {ac:ACode} {rs:List RS} {args:List V} {v u1 u2:V} {k1 k2:Nat} (hf:A7 P f N ac rs=true) (hn:args.length≤N)
  (h:vc P ac (Aog N rs args fun r o=>r=v∧o[k1]? = some u1∧o[k2]? = some u2) (entry N 0 args)):Anf P f args v k1 u1 k2 u2:=Aob hf hn h
def Apo (P:Program) (f m j:Nat) (vs:List V) (v:V) (k1:Nat) (u1:V) (k2:Nat) (u2:V):Prop:=Ao8 P f m j vs (fun r o=>r=v∧o[k1]? = some u1∧o[k2]? = some u2)
theorem A3q {P:Program} {f N m j:Nat} {ac:ACode} {rs:List RS} {args:List V} {v u1 u2:V} {k1 k2:Nat} (hf:A7 P f N ac rs=true) (hn:args.length≤N) (hj:m+j<args.length)
  (h:vc P ac (Aog N rs args fun r o=>r=v∧o[k1]? = some u1∧o[k2]? = some u2) (Axd N m j f args)):Apo P f m j args v k1 u1 k2 u2:=A58 hf hn hj h
theorem RdL.drop {w:World} {O:Nat→Prop} : ∀(k:Nat) {os:List V} {us:List Value} {fp:List Nat},RdL w O os us fp → ∃fp',RdL w O (os.set k .dead) us fp'∧List.Sublist fp' fp
 | _,_,_,_,.nil=>⟨[],.nil,.slnil⟩
 | 0,_,_,_,.leaf _ t=>⟨_,.leaf (.dead _) t,.refl _⟩
 | 0,_,_,_,.grp _ _ t=>⟨_,.leaf (.dead _) t,List.sublist_append_right _ _⟩
 | 0,_,_,_,.fblk _ _ _ _ t=>⟨_,.leaf (.dead _) t,.refl _⟩
 | 0,_,_,_,.oblk _ _ _ _ _ t=>⟨_,.leaf (.dead _) t,(List.sublist_append_right _ _).cons _⟩
 | 0,_,_,_,.mpf _ _ _ t=>⟨_,.leaf (.dead _) t,.refl _⟩
 | 0,_,_,_,.mpo _ _ _ t=>⟨_,.leaf (.dead _) t,(List.Sublist.refl _).cons _⟩
 | k+1,_,_,_,.leaf h t=>let ⟨_,a,b⟩:=RdL.drop k t;⟨_,.leaf h a,b⟩
 | k+1,_,_,_,.grp h s t=>let ⟨_,a,b⟩:=RdL.drop k t;⟨_,.grp h s a,(List.Sublist.refl _).append b⟩
 | k+1,_,_,_,.fblk h hc hO s t=>let ⟨_,a,b⟩:=RdL.drop k t;⟨_,.fblk h hc hO s a,b⟩
 | k+1,_,_,_,.oblk h hb hO hk s t=>let ⟨_,a,b⟩:=RdL.drop k t;⟨_,.oblk h hb hO hk s a,((List.Sublist.refl _).append b).cons_cons _⟩
 | k+1,_,_,_,.mpf hb he hO t=>let ⟨_,a,b⟩:=RdL.drop k t;⟨_,.mpf hb he hO a,b⟩
 | k+1,_,_,_,.mpo hb he hO t=>let ⟨_,a,b⟩:=RdL.drop k t;⟨_,.mpo hb he hO a,b.cons_cons _⟩
theorem Tri.drop {P:Program} {f:Nat} {args:List V} {k:Nat} {R:V→List V→Prop} (h:Tri P f args fun r o=>R r (o.set k .dead)):Tri P f args R:=by
 intro w O vals fp h1 h2
 obtain ⟨h3,h4⟩:=h w O vals fp h1 h2
 refine ⟨h3,h4.mono ?_⟩
 rintro e w' ⟨res,outs,rv,O',fpr,fpo,hR,he,r1,ro,hnd,hm⟩
 obtain ⟨fp',a,b⟩:=RdL.drop k ro
 have hs:List.Sublist (fpr++fp') (fpr++fpo):=(List.Sublist.refl _).append b
 exact ⟨res,_,rv,O',fpr,fp',hR,he,r1,a,hs.nodup hnd,⟨hm.os,hm.tape,hm.output,hm.size,hm.same,fun b hb=>hm.new b (hs.subset hb)⟩⟩
theorem Tri.freeze {P:Program} {f:Nat} {args:List V} {R:V→List V→Prop} (h:Tri P f args fun r o=>R r.fz o):Tri P f args R:=by
 intro w O vals fp h1 h2
 obtain ⟨h3,h4⟩:=h w O vals fp h1 h2
 refine ⟨h3,h4.mono ?_⟩
 rintro e w' ⟨res,outs,rv,O',fpr,fpo,hR,he,r1,ro,hnd,hm⟩
 have hd:=List.nodup_append.1 hnd
 have hnew : ∀b,b∈fpr→b∈fp∨w.heap.size≤b:=fun b hb=>hm.new b (by simp [hb])
 refine ⟨res.fz,outs,rv,fun b=>O' b∧b∉fpr,[],fpo,hR,he,?_,?_,by simpa using hd.2.1,⟨hm.os,hm.tape,hm.output,hm.size,fun b hb hS=> ?_,fun b hb=>hm.new b (by simpa using Or.inr (by simpa using hb))⟩⟩
 ·have:=r1.fz (O2:=fun b=>O' b∧b∉fpr) (fun b hb hh=>hh.2 hb) (fun b hb _ hh=>hb hh.1)
  simpa [fzL] using this
 ·exact ro.frame (fun b hb=>⟨rfl,(ro.fpO b hb).1,fun hh=>hd.2.2 b hh b hb rfl⟩) (fun b hb _=>⟨rfl,fun hh=>hb hh.1⟩)
 have:=hm.same b hb hS
 refine ⟨this.1,⟨fun hh=>this.2.1 hh.1,fun hh=>⟨this.2.2 hh,fun hf=> ?_⟩⟩⟩
 rcases hnew b hf with h5 | h5
 ·exact hS h5
 omega
theorem A3i {P:Program} {f N:Nat} {ac:ACode} {rs:List RS} {args:List V} {v:V} (hf:A7 P f N ac rs=true) (hn:args.length≤N)
  (h:vc P ac (Aog N rs args fun r _=>r.fz=v) (entry N 0 args)):Ret P f args v:=Tri.freeze (R:=fun r _=>r=v) (Aob hf hn h)
theorem A10 {P:Program} {f N:Nat} {ac:ACode} {rs:List RS} {args:List V} {v u:V} {k:Nat} (hf:A7 P f N ac rs=true) (hn:args.length≤N)
  (h:vc P ac (Aog N rs args fun r o=>r.fz=v∧o[k]? = some u) (entry N 0 args)):Aey P f args v k u:=Tri.freeze (R:=fun r o=>r=v∧o[k]? = some u) (Aob hf hn h)
theorem Ret.frz {P:Program} {f:Nat} {vs:List V} {v v':V} (h:Ret P f vs v) (e:v.fz=v'):Ret P f vs v':=
 Tri.freeze (R:=fun r _=>r=v') (Tri.mono h fun r _ hr=>by rw [show r=v from hr];exact e)
theorem Aey.frz {P:Program} {f k:Nat} {vs:List V} {v v' u:V} (h:Aey P f vs v k u) (e:v.fz=v'):Aey P f vs v' k u:=
 Tri.freeze (R:=fun r o=>r=v'∧o[k]? = some u) (Tri.mono h fun r _ hr=>⟨by rw [show r=v from hr.1];exact e,hr.2⟩)
theorem Ret.cast {P:Program} {f:Nat} {vs vs':List V} {v:V} (e:vs=vs') (h:Ret P f vs v):Ret P f vs' v:=e▸h
class NoFz {α:Type} (f:α→V):Prop where
 eq : ∀x,(f x).noFz=true
instance {k:IntKind}:NoFz (V.int k):=⟨fun _=>rfl⟩
instance:NoFz Af:=⟨fun _=>rfl⟩
instance:NoFz V.bool:=⟨fun _=>rfl⟩
instance:NoFz V.str:=⟨fun _=>rfl⟩
theorem Cu {α:Type} {f:α→V} [NoFz f] (xs:List α):Ct (xs.map f)=true:=by
 induction xs with
 | nil=>rfl
 | cons x r ih=>simp [Ct,NoFz.eq,ih]
instance {α:Type} (m:Nat) (f:α→V) [NoFz f]:NoFz (slr true m f):=⟨fun x=>by simp [V.noFz,Cu]⟩
instance {β:Type} (f:β→Lf):NoFz (rMp true f):=⟨fun x=>by simp [V.noFz]⟩
instance {α:Type} (f:α→V) [NoFz f]:NoFz (rP true f):=⟨fun x=>by simp [V.noFz,NoFz.eq]⟩
instance {α:Type} (f:α→V) [NoFz f]:NoFz (rO true f):=⟨fun x=>by cases x<;>simp [V.noFz,NoFz.eq]⟩
instance {α:Type} (f:α→V) [NoFz f]:NoFz (rA2 f):=⟨fun x=>by simp [V.noFz,Ct,NoFz.eq]⟩
instance {α:Type} (f:α→V) [NoFz f]:NoFz (rA3 f):=⟨fun x=>by simp [V.noFz,Ct,NoFz.eq]⟩
section
variable {P:Program} {K:St→Prop} {σ:St} {β ρ:Type} {v:ρ} {oo:Option β} {k:β→Option ρ}
theorem CallQ.o (rep:β→V) {vs vs':List V} {f d:Nat} (e:vs=vs') (h:oo.bind k=some v) (hr : ∀r,oo=some r→Ret P f vs' (rep r)) (hk : ∀r,k r=some v→B6 (As d (.val (rep r)) σ) K):CallQ P f d vs [] [] K σ:=by
 subst e
 obtain ⟨r,h1,h2⟩:=Option.bind_eq_some_iff.1 h
 have h3:=hk r h2
 rw [Av] at h3
 refine ⟨rfl,Tri.mono (hr r h1) ?_⟩
 rintro r o rfl
 exact ⟨rfl,h3⟩
theorem CallQ.rd (rep:β→V) {vs vs':List V} {rs:List Nat} {f d:Nat} (e:vs=vs') (hn : ∀r,(rep r).noFz=true) (h:oo.bind k=some v) (hr : ∀r,oo=some r→Ret P f vs' (rep r)) (hk : ∀r,k r=some v→B6 (As d (.val (rep r)) σ) K):CallQ P f d vs [] rs K σ:=by
 subst e
 obtain ⟨r,h1,h2⟩:=Option.bind_eq_some_iff.1 h
 have h3:=hk r h2
 rw [Av] at h3
 refine ⟨rfl,Tri.mono (hr r h1) ?_⟩
 rintro r' o rfl
 exact ⟨by simp [Ea,hn r],h3⟩
theorem CloQ.o (rep:β→V) {vs vs' cs:List V} {rs:List Nat} {f d:Nat} (e:vs++fzL cs=vs') (hn : ∀r,Ea rs (rep r)=true) (h:oo.bind k=some v) (hr : ∀r,oo=some r→Ret P f vs' (rep r)) (hk : ∀r,k r=some v→B6 (As d (.val (rep r)) σ) K):CloQ P f d cs vs rs K σ:=by
 subst e
 obtain ⟨r,h1,h2⟩:=Option.bind_eq_some_iff.1 h
 have h3:=hk r h2
 rw [Av] at h3
 refine ⟨Tri.mono (hr r h1) ?_⟩
 rintro r' o rfl
 exact ⟨hn r,h3⟩
theorem CallP.o (rep:β→V) {vs vs':List V} {f d:Nat} {K:V→Prop} (e:vs=vs') (h:oo.bind k=some v) (hr : ∀r,oo=some r→Ret P f vs' (rep r)) (hk : ∀r,k r=some v→K (rep r)):CallP P f d vs [] K:=by
 subst e
 obtain ⟨r,h1,h2⟩:=Option.bind_eq_some_iff.1 h
 exact ⟨_,Tri.mono (hr r h1) (by rintro r' _ rfl;exact ⟨rfl,rfl⟩),hk r h2⟩
theorem CallP.rd (rep:β→V) {vs vs':List V} {rs:List Nat} {f d:Nat} {K:V→Prop} (e:vs=vs') (hn : ∀r,(rep r).noFz=true) (h:oo.bind k=some v) (hr : ∀r,oo=some r→Ret P f vs' (rep r)) (hk : ∀r,k r=some v→K (rep r)):CallP P f d vs rs K:=by
 subst e
 obtain ⟨r,h1,h2⟩:=Option.bind_eq_some_iff.1 h
 exact ⟨_,Tri.mono (hr r h1) (by rintro r' _ rfl;exact ⟨rfl,by simp [Ea,hn r]⟩),hk r h2⟩
theorem FrzQ.z {T:V} {K:V→Prop} (h:K T.fz):FrzQ T 0 K:=⟨_,Gp T,h⟩
theorem FrzQ.d {T:V} {n:Nat} {K:V→Prop} (T':V) (e:T.fzAt n=T') (h:K T'):FrzQ T n K:=⟨_,e,h⟩
theorem LendP.io {γ:Type} {o:Option (β×γ)} {k:β×γ→Option ρ} (rep:β→V) (rep2:γ→V) {vs vs':List V} {rs:List Nat} {f d j:Nat} {T:V} {K:V→V→Prop} (e:vs=vs')
  (hn : ∀b,Ea rs (rep b)=true) (hn2 : ∀b,Ea rs (rep2 b)=true∧(rep2 b).node=true) (hu : ∀u,upd [] T u=some u) (h:o.bind k=some v) (hr : ∀x,o=some x→Aey P f vs' (rep x.1) j (rep2 x.2))
  (hk : ∀b c,k (b,c)=some v→K (rep b) (rep2 c)):LendP P f d vs rs j [] T K:=by
 subst e
 obtain ⟨⟨b,c⟩,h1,h2⟩:=Option.bind_eq_some_iff.1 h
 exact ⟨_,_,_,hr _ h1,⟨hn b,(hn2 c).1,(hn2 c).2,hu _⟩,hk b c h2⟩
theorem CallQ.io {γ:Type} {o:Option (β×γ)} {k:β×γ→Option ρ} (rep:β→V) (rep2:γ→V) {vs vs':List V} {rs:List Nat} {f d j r:Nat} {p:List Nat} {T:V} (e:vs=vs') (hroots:rs.contains r=false)
  (hn : ∀b,Ea rs (rep b)=true) (hn2 : ∀b,Ea rs (rep2 b)=true∧(rep2 b).node=true) (hT:look σ r = .val T) (h:o.bind k=some v) (hr : ∀x,o=some x→Aey P f vs' (rep x.1) j (rep2 x.2))
  (hk : ∀b c,k (b,c)=some v→My p T (rep2 c) fun T'=>B6 (As d (.val (rep b)) (Ie r T' (p.length+1) σ)) K):CallQ P f d vs [(j,r,p)] rs K σ:=by
 subst e
 obtain ⟨⟨b,c⟩,h1,h2⟩:=Option.bind_eq_some_iff.1 h
 obtain ⟨T',h3,h4⟩:=Ge (hk b c h2)
 rw [Av] at h4
 refine ⟨by simp only [Io,hroots];rfl,Tri.mono (hr _ h1) ?_⟩
 rintro res outs ⟨rfl,ho⟩
 refine ⟨hn b,?_⟩
 rw [ho,hT]
 exact ⟨(hn2 c).1,by rw [h3];show K (As d _ (Ie r T' (p.length+M1 (rep2 c)) σ));rw [Nh (hn2 c).2];exact h4⟩
theorem CallQ.io2 {γ1 γ2:Type} {o:Option (β×γ1×γ2)} {k:β×γ1×γ2→Option ρ} (rep:β→V) (rep1:γ1→V) (rep2:γ2→V) {vs vs':List V} {rs:List Nat} {f d j1 j2 r1 r2:Nat} {p1 p2:List Nat} {T1 T2:V} (e:vs=vs')
  (hroots:Io σ [(j1,r1,p1),(j2,r2,p2)] rs=true) (hne:Nat.beq r1 r2=false)
  (hn : ∀b,Ea rs (rep b)=true) (hn1 : ∀b,Ea rs (rep1 b)=true∧(rep1 b).node=true) (hn2 : ∀b,Ea rs (rep2 b)=true∧(rep2 b).node=true) (hT1:look σ r1 = .val T1) (hT2:look σ r2 = .val T2)
  (h:o.bind k=some v) (hr : ∀x,o=some x→Anf P f vs' (rep x.1) j1 (rep1 x.2.1) j2 (rep2 x.2.2))
  (hk : ∀b c1 c2,k (b,c1,c2)=some v→My p1 T1 (rep1 c1) fun T1'=>My p2 T2 (rep2 c2) fun T2'=>B6 (As d (.val (rep b)) (Ie r2 T2' (p2.length+1) (Ie r1 T1' (p1.length+1) σ))) K) :
  CallQ P f d vs [(j1,r1,p1),(j2,r2,p2)] rs K σ:=by
 subst e
 obtain ⟨⟨b,c1,c2⟩,h1,h2⟩:=Option.bind_eq_some_iff.1 h
 obtain ⟨T1',h3,h4⟩:=Ge (hk b c1 c2 h2)
 obtain ⟨T2',h5,h6⟩:=Ge h4
 rw [Av] at h6
 refine ⟨hroots,Tri.mono (hr _ h1) ?_⟩
 rintro res outs ⟨rfl,ho1,ho2⟩
 refine ⟨hn b,?_⟩
 rw [ho1,ho2]
 refine ⟨by simp only [(hn1 c1).1,(hn2 c2).1,Bool.and_self],?_⟩
 simp only [Art,hne,hT1,hT2,h3,h5,Nh (hn1 c1).2,Nh (hn2 c2).2]
 exact h6
theorem CallT.io2 {γ1 γ2:Type} {o:Option (β×γ1×γ2)} {k:β×γ1×γ2→Option ρ} (rep:β→V) (rep1:γ1→V) (rep2:γ2→V) {vs vs':List V} {rs:List Nat} {f m j d j1 j2 r1 r2:Nat} {p1 p2:List Nat} {T1 T2:V} (e:vs=vs')
  (hroots:Io σ [(j1,r1,p1),(j2,r2,p2)] rs=true) (hne:Nat.beq r1 r2=false)
  (hn : ∀b,Ea rs (rep b)=true) (hn1 : ∀b,Ea rs (rep1 b)=true∧(rep1 b).node=true) (hn2 : ∀b,Ea rs (rep2 b)=true∧(rep2 b).node=true) (hT1:look σ r1 = .val T1) (hT2:look σ r2 = .val T2)
  (h:o.bind k=some v) (hr : ∀x,o=some x→Apo P f m j vs' (rep x.1) j1 (rep1 x.2.1) j2 (rep2 x.2.2))
  (hk : ∀b c1 c2,k (b,c1,c2)=some v→My p1 T1 (rep1 c1) fun T1'=>My p2 T2 (rep2 c2) fun T2'=>B6 (As d (.val (rep b)) (Ie r2 T2' (p2.length+1) (Ie r1 T1' (p1.length+1) σ))) K) :
  CallT P f m j d vs [(j1,r1,p1),(j2,r2,p2)] rs K σ:=by
 subst e
 obtain ⟨⟨b,c1,c2⟩,h1,h2⟩:=Option.bind_eq_some_iff.1 h
 obtain ⟨T1',h3,h4⟩:=Ge (hk b c1 c2 h2)
 obtain ⟨T2',h5,h6⟩:=Ge h4
 rw [Av] at h6
 refine ⟨hroots,Ao8.mono (hr _ h1) ?_⟩
 rintro res outs ⟨rfl,ho1,ho2⟩
 refine ⟨hn b,?_⟩
 rw [ho1,ho2]
 refine ⟨by simp only [(hn1 c1).1,(hn2 c2).1,Bool.and_self],?_⟩
 simp only [Art,hne,hT1,hT2,h3,h5,Nh (hn1 c1).2,Nh (hn2 c2).2]
 exact h6
theorem CallQ.give (rep:β→V) {vs vs':List V} {rs:List Nat} {f d j r:Nat} {p:List Nat} {T:V} (e:vs=vs') (hroots:rs.contains r=false)
  (hn : ∀b,Ea rs (rep b)=true) (hT:look σ r = .val T) (h:oo.bind k=some v) (hr : ∀x,oo=some x→Aey P f vs' (rep x) j .dead)
  (hk : ∀b,k b=some v→My p T .dead fun T'=>B6 (As d (.val (rep b)) (Ie r T' p.length σ)) K):CallQ P f d vs [(j,r,p)] rs K σ:=by
 subst e
 obtain ⟨b,h1,h2⟩:=Option.bind_eq_some_iff.1 h
 obtain ⟨T',h3,h4⟩:=Ge (hk b h2)
 rw [Av] at h4
 refine ⟨by simp only [Io,hroots];rfl,Tri.mono (hr _ h1) ?_⟩
 rintro res outs ⟨rfl,ho⟩
 refine ⟨hn b,?_⟩
 rw [ho,hT]
 exact ⟨by cases rs<;>rfl,by rw [h3];exact h4⟩
theorem LendQ.io {γ:Type} {o:Option (β×γ)} {k:β×γ→Option ρ} (rep:β→V) (rep2:γ→V) (cs:γ→List V) (fld:γ→V) {bs:List A} {vs vs':List V} {rs:List Nat} {f d j r:Nat} {p:List Nat} {T:V}
  (e:Aug 0 bs.length vs=vs') (hc : ∀c,rep2 c = .agg (cs c)) (hf : ∀c,(cs c)[j]? = some (fld c)) (hroots:rs.contains r=false)
  (hn : ∀b,Ea rs (rep b)=true) (hn2 : ∀b,Ea rs (fld b)=true∧(fld b).node=true) (hT:look σ r = .val T) (h:o.bind k=some v) (hr : ∀x,o=some x→Aey P f vs' (rep x.1) 0 (rep2 x.2))
  (hk : ∀b c,k (b,c)=some v→My p T (fld c) fun T'=>B6 (As d (.val (rep b)) (Ie r T' (p.length+1) σ)) K):LendQ P f d 0 bs vs [(j,r,p)] rs K σ:=by
 subst e
 obtain ⟨⟨b,c⟩,h1,h2⟩:=Option.bind_eq_some_iff.1 h
 obtain ⟨T',h3,h4⟩:=Ge (hk b c h2)
 rw [Av] at h4
 refine ⟨by simp only [Io,hroots];rfl,Tri.mono (hr _ h1) ?_⟩
 rintro res outs ⟨rfl,ho⟩
 cases outs with
 | nil=>cases ho
 | cons x o=>
   simp only [List.getElem?_cons_zero,Option.some.injEq] at ho
   subst ho
   have hj:(cs c++o)[j]? = some (fld c):=by
    have hlt:=(List.getElem?_eq_some_iff.1 (hf c)).1
    rw [List.getElem?_append_left hlt];exact hf c
   show Yw 0 _ _ (rep2 c::o)
   rw [hc c]
   refine ⟨hn b,?_⟩
   simp only [List.take_zero,List.nil_append]
   rw [hj,hT]
   exact ⟨(hn2 c).1,by rw [h3];show K (As d _ (Ie r T' (p.length+M1 (fld c)) σ));rw [Nh (hn2 c).2];exact h4⟩
end
abbrev Tgt:=Ex×List Nat×St
def atQ (t:Tgt):Ex→St→Prop:=fun ex σ=>ex=t.1∧restrict t.2.1 σ=t.2.2
def Cc {σ' τ:Type} (ks:List Nat) (st:σ'→St) (tg:τ→Tgt):σ' ⊕ τ→Ex→St→Prop
 | .inl s=>atQ (.normal,ks,st s)
 | .inr t=>atQ (tg t)
def Ex.isNormal:Ex→Bool
 | .normal=>true
 | .exit _=>false
 | .ret=>false
theorem LoopQ.o {σ' τ ρ:Type} {body:σ'→Option (σ' ⊕ τ)} {k:τ→Option ρ} {v:ρ} {s0:σ'} {P:Program} {c:ACode} {Q:Ex→St→Prop} {σ:St} (ks:List Nat) (st:σ'→St) (tg:τ→Tgt)
  (h:(Aj body s0).bind k=some v) (hb : ∀s o,body s=some o→vc P c (Cc ks st tg o) (st s)) (h0:restrict ks σ=st s0) (hn : ∀t,(tg t).1.isNormal=false) (ha : ∀t,k t=some v→Q (tg t).1 (tg t).2.2) :
  LoopQ P c Q σ:=by
 obtain ⟨t,h1,h2⟩:=Option.bind_eq_some_iff.1 h
 obtain ⟨n,hit⟩:=Q0.1 h1
 refine ⟨ks,n,?_⟩
 rw [h0]
 clear h0 h h1
 induction n generalizing s0 with
 | zero=>cases hit
 | succ n ih=>
   simp only [Amc] at hit
   split at hit
   ·cases hit
   ·rename_i s' e
    refine U8 ?_ (X4 (hb _ _ e))
    rintro ex τ' ⟨h3,h4⟩
    subst h3
    show Aem (awp P c) ks (less Q) n (restrict ks τ')
    rw [h4]
    exact ih hit
   ·rename_i t' e
    cases hit
    refine U8 ?_ (X4 (hb _ _ e))
    rintro ex τ' ⟨h3,h4⟩
    have hne:=hn t
    rw [←h3] at hne
    have hq:=ha t h2
    rw [←h4,←h3] at hq
    cases ex with
    | normal=>cases hne
    | exit i=>exact .inr ⟨_,hq⟩
    | ret=>exact .inr ⟨_,hq⟩
theorem CutQ.o {τ ρ:Type} {e:Option τ} {k:τ→Option ρ} {v:ρ} {P:Program} {c:ACode} {Q:Ex→St→Prop} {σ:St} (tg:τ→Tgt)
  (h:e.bind k=some v) (hb : ∀t,e=some t→vc P c (atQ (tg t)) σ) (ha : ∀t,k t=some v→Q (tg t).1 (tg t).2.2):CutQ P c Q σ:=by
 obtain ⟨t,h1,h2⟩:=Option.bind_eq_some_iff.1 h
 refine ⟨?_⟩
 show awp P c (less Q) σ
 refine U8 ?_ (X4 (hb t h1))
 rintro ex τ' ⟨h3,h4⟩
 have hq:=ha t h2
 rw [←h4,←h3] at hq
 exact .inr ⟨_,hq⟩
end Go.Proofs.Ytpfikenknmlajaa.Ax
