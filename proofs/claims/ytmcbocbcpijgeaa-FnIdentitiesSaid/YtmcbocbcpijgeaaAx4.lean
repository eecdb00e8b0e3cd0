/-
 Part of the proof; see the last text of the claim.
-/
import Derived.Test.YtmcbocbcpijgeaaAx3
namespace Go.Proofs.Ytmcbocbcpijgeaa.Ax
open Go
structure Br (b:Bool) (X Y:Prop):Prop where
 t:b=true→X
 f:b=false→Y
structure Ask (p X:Prop):Prop where
 p:p
 x:X
structure Elem (xs:List V) (j:Nat) (K:V→Prop):Prop where
 h:K (xs.getD j .dead)
structure Cells (xs:List V) (c n:Nat) (K:List V→Prop):Prop where
 h : ∃us,c+n≤xs.length∧(xs.drop c).take n=us∧K us
structure Kid (T:V) (c:Nat) (K:V→Prop):Prop where
 h : ∃k,T.stepOk=true∧T.kids[c]? = some k∧K k
structure SetKids (x:V) (c:Nat) (us:List V) (K:V→Prop):Prop where
 h : ∃x',x.setKids c us=some x'∧K x'
structure MkQ (d n:Nat) (z:V) (K:List V→Prop):Prop where
 h:K (List.replicate n z)
structure BslQ (d m:Nat) (us:List V) (K:List V→Prop):Prop where
 h:Ls m us=true∧K us
structure AppQ (d:Nat) (xs ys:List V) (K:List V→Prop):Prop where
 h:C4 (Bo ys)=true∧xs.length+ys.length≤LIM∧K (xs++ys)
structure NoOwn (ys:List V) (X Y:Prop):Prop where
 h:(Bf (Bo ys)=false∧X)∨(Bf (Bo ys)=true∧Y)
structure SlcQ (xs:List V) (l h:Int) (K:List V→Prop):Prop where
 h:0≤l∧l≤h∧h≤(xs.length:Int)∧K ((xs.drop l.toNat).take (h.toNat-l.toNat))
structure Idx (j:Int) (lo n:Nat) (K:Int→Prop):Prop where
 h:lo≤j→j<n→K j
def Ba:Nat→Nat→Nat
 | x,0=>x*0
 | x,1=>x
 | x,m+2=>x*(m+2)
theorem Aa (x:Nat):Ba x 1=x:=rfl
theorem Oe (x m:Nat):Ba x m=x*m:=by
 unfold Ba;split<;>simp
def Auf (a b:Int):Int:=IntKind.i64.wrap (a*2^(min b.toNat IntKind.i64.bits))
def Aty (a b:Int):Int:=a.fdiv (2^(min b.toNat IntKind.i64.bits))
def Ata (a b:Int):Int:=IntKind.i64.wrap (BitVec.ofInt IntKind.i64.bits a &&& BitVec.ofInt IntKind.i64.bits b).toNat
def orI (a b:Int):Int:=IntKind.i64.wrap (BitVec.ofInt IntKind.i64.bits a ||| BitVec.ofInt IntKind.i64.bits b).toNat
def As8 (a b:Int):Int:=IntKind.i64.wrap (BitVec.ofInt IntKind.i64.bits a ^^^ BitVec.ofInt IntKind.i64.bits b).toNat
def Aos (a b:Int):Int:=IntKind.i64.wrap (BitVec.ofInt IntKind.i64.bits a &&& ~~~BitVec.ofInt IntKind.i64.bits b).toNat
theorem Br.not {b:Bool} {X Y:Prop} (h:Br b Y X):Br (!b) X Y:=by
 cases b
 ·exact ⟨fun _=>h.f rfl,fun e=>Bool.noConfusion e⟩
 exact ⟨fun e=>Bool.noConfusion e,fun _=>h.t rfl⟩
theorem Br.beq {a b:Int} {X Y:Prop} (h1:a=b→X) (h2:a≠b→Y):Br (a==b) X Y:=⟨fun h=>h1 (by simpa using h),fun h=>h2 (by simpa using h)⟩
structure Len (xs:List V) (K:Nat→Prop):Prop where
 h:K xs.length
theorem Len.map {α:Type} {f:α→V} {xs:List α} {K:Nat→Prop} (h:K xs.length):Len (xs.map f) K:=⟨by rw [List.length_map];exact h⟩
theorem Len.app {xs ys:List V} {K:Nat→Prop} (h:K (xs.length+ys.length)):Len (xs++ys) K:=⟨by rw [List.length_append];exact h⟩
theorem Br.yes {X Y:Prop} (h:X):Br true X Y:=⟨fun _=>h,fun e=>Bool.noConfusion e⟩
theorem Br.no {X Y:Prop} (h:Y):Br false X Y:=⟨fun e=>Bool.noConfusion e,fun _=>h⟩
mutual
def Nn:A→(A→Prop)→Prop
 | .top,K=>K .top
 | .val v,K=>K (.val v)
 | .ref r p,K=>K (.ref r p)
 | .addr r p c,K=>K (.addr r p c)
 | .fad cs,K=>K (.fad cs)
 | .agg as,K=>Vl as fun bs=>K (.agg bs)
 | .clo f as,K=>Vl as fun bs=>K (.clo f bs)
 | .tie b f p q,K=>Vl p fun ps=>Vl q fun qs=>K (.tie b f ps qs)
def Vl:List A→(List A→Prop)→Prop
 | [],K=>K []
 | a::r,K=>Nn a fun b=>Vl r fun s=>K (b::s)
end
mutual
theorem Kn:(a:A)→(K:A→Prop)→Nn a K=K a
 | .top,_=>rfl
 | .val _,_=>rfl
 | .ref _ _,_=>rfl
 | .addr _ _ _,_=>rfl
 | .fad _,_=>rfl
 | .agg as,K=>by simp only [Nn];rw [Ps as]
 | .clo f as,K=>by simp only [Nn];rw [Ps as]
 | .tie b f p q,K=>by simp only [Nn];rw [Ps p,Ps q]
theorem Ps:(as:List A)→(K:List A→Prop)→Vl as K=K as
 | [],_=>rfl
 | a::r,K=>by simp only [Vl];rw [Kn a,Ps r]
end
def B0:St→(St→Prop)→Prop
 | [],K=>K []
 | (k,a)::r,K=>Nn a fun b=>B0 r fun s=>K ((k,b)::s)
theorem A5 : ∀(σ:St) (K:St→Prop),B0 σ K=K σ:=by
 intro σ
 induction σ with
 | nil=>intro K;rfl
 | cons e r ih=>intro K;obtain ⟨k,a⟩:=e;simp only [B0];rw [Kn,ih]
def Aa6 (o:Option St) (K:St→Prop):Prop:=match o with
 | some σ=>B0 σ K
 | none=>False
theorem Th {o:Option St} {K:St→Prop} (h:Aa6 o K) : ∃σ,o=some σ∧K σ:=by
 unfold Aa6 at h
 split at h
 ·rw [A5] at h;exact ⟨_,rfl,h⟩
 exact h.elim
def Jt (s:Nat) (b:Bool):St→St
 | []=>[]
 | (k,a)::r=>match Nat.beq k s with
   | true=>(k,.val (.bool b))::r
   | false=>(k,a)::Jt s b r
theorem Mt {s:Nat} {b:Bool} : ∀ {σ:St},look σ s = .val (.bool b)→Jt s b σ=σ:=by
 intro σ
 induction σ with
 | nil=>intro _;rfl
 | cons e r ih=>
   obtain ⟨k,a⟩:=e
   intro h
   simp only [look] at h
   simp only [Jt]
   by_cases hk:k=s
   ·rw [if_pos hk] at h
    subst hk
    rw [show Nat.beq k k=true by simp,h]
   ·rw [if_neg hk] at h
    rw [show Nat.beq k s=false by
     cases hb:Nat.beq k s with
     | false=>rfl
     | true=>exact absurd (Nat.eq_of_beq_eq_true hb) hk]
    simp only [ih h]
def Aue (x:X) (b:Bool) (σ:St):St:=match x with
 | .t s=>Jt s b σ
 | .c _=>σ
def Aff:List Nat→V→(V→Prop)→Prop
 | [],T,K=>K T
 | c::p,T,K=>Kid T c fun k=>Aff p k K
theorem Rg : ∀ {p:List Nat} {T:V} {K:V→Prop},Aff p T K → ∃u,sub p T=some u∧K u:=by
 intro p
 induction p with
 | nil=>intro T K h;exact ⟨T,rfl,h⟩
 | cons c p ih=>
   intro T K h
   obtain ⟨k,h1,h2,h3⟩:=h.h
   obtain ⟨u,h4,h5⟩:=ih h3
   exact ⟨u,by simp only [sub,h1,h2,if_true,h4],h5⟩
def Ti (T:A) (p:List Nat) (K:V→Prop):Prop:=match T with
 | .val V=>Aff p V K
 | _=>False
def Oh:List Nat→V→V→(V→Prop)→Prop
 | [],_,u,K=>K u
 | c::p,T,u,K=>Kid T c fun k=>Oh p k u fun k'=>SetKids T c [k'] K
theorem He : ∀ {p:List Nat} {T u:V} {K:V→Prop},Oh p T u K → ∃T',upd p T u=some T'∧K T':=by
 intro p
 induction p with
 | nil=>intro T u K h;exact ⟨u,rfl,h⟩
 | cons c p ih=>
   intro T u K h
   obtain ⟨k,h1,h2,h3⟩:=h.h
   obtain ⟨k',h4,h5⟩:=ih h3
   obtain ⟨T',h6,h7⟩:=h5.h
   exact ⟨T',by simp only [upd,h2,h4,h6],h7⟩
theorem F0 {σ:St} {r:Nat} {p:List Nat} {K:V→Prop} (h:Ti (look σ r) p K) : ∃T u,look σ r = .val T∧sub p T=some u∧Bs σ r p=some u∧K u:=by
 unfold Ti at h
 split at h
 ·rename_i T hT
  obtain ⟨u,h1,h2⟩:=Rg h
  exact ⟨T,u,hT,h1,by simp [Bs,hT,h1],h2⟩
 exact h.elim
def Y6 (a b:A) (K:Int→Int→Prop) (E:Prop):Prop:=match a,b with
 | .val (.int .i64 x),.val (.int .i64 y)=>K x y
 | _,_=>E
abbrev InI (n:Int):Prop:= -9223372036854775808≤n∧n≤9223372036854775807
theorem Aoh {a b:A} {K:Int→Int→Prop} {E:Prop} (h:Y6 a b K E):(∃x y,a = .val (.int .i64 x)∧b = .val (.int .i64 y)∧K x y)∨E:=by
 unfold Y6 at h
 split at h
 ·exact .inl ⟨_,_,rfl,rfl,h⟩
 exact .inr h
def F2 (o:Option (Nat×A)) (K:Nat→A→Prop):Prop:=match o with
 | some (d,a)=>Nn a fun b=>K d b
 | none=>False
theorem G0 {o:Option (Nat×A)} {K:Nat→A→Prop} (h:F2 o K) : ∃d a,o=some (d,a)∧K d a:=by
 unfold F2 at h
 split at h
 ·rw [Kn] at h;exact ⟨_,_,rfl,h⟩
 exact h.elim
def Auj (d:Nat) (xs:List V) (K:Nat→A→Prop):Prop:=Len xs fun n=>K d (.val (.int .i64 n))
def Arq (d m m':Nat) (xs:List V) (j:Int) (own:Option (Nat×List Nat)) (K:Nat→A→Prop):Prop:=match Nat.beq m' m with
 | true=>Len xs fun n=>Ask (0≤j∧j<n) (match own with
   | none=>Elem xs j.toNat fun u=>K d (.fad u.cells)
   | some (r,p)=>K d (.addr r p (Ba j.toNat m)))
 | false=>False
structure LkQ (es:List (ByteArray×Lf)) (s:ByteArray) (z:Lf) (ok:Bool) (K:V→Prop):Prop where
 h:K (Alt es s z ok)
structure MsQ (es:List (ByteArray×Lf)) (s:ByteArray) (x:Lf) (K:List (ByteArray×Lf)→Prop):Prop where
 h:K (Ob es s x)
structure BsQ (xs:List V) (K:ByteArray→Prop):Prop where
 h : ∃ns,Lr xs=some ns∧K (Ac8 ns)
def Amx (d m:Nat) (xs:List V) (K:Nat→A→Prop):Prop:=match Nat.beq m 1 with
 | true=>BsQ xs fun s=>K d (.val (.str s))
 | false=>False
structure FrzQ (T:V) (n:Nat) (K:V→Prop):Prop where
 h : ∃T',T.fzAt n=T'∧K T'
def Zy (o:AOp) (σ:St) (K:Nat→A→Prop):Prop:=match o with
 | .mlk d x k z ok=>match Ai σ x,Ai σ k with
   | .val (.mp o es),.val (.str s)=>(match o with
     | false=>LkQ es s z ok fun v=>K d (.val v)
     | true=>False)
   | .ref r p,.val (.str s)=>Ti (look σ r) p fun u=>match u with
     | .mp _ es=>LkQ es s z ok fun v=>K d (.val v)
     | _=>False
   | _,_=>False
 | .bstr d x=>match Ai σ x with
   | .val (.sl o m xs)=>(match o with
     | false=>Amx d m xs K
     | true=>False)
   | .ref r p=>Ti (look σ r) p fun u=>match u with
     | .sl _ m xs=>Amx d m xs K
     | _=>False
   | _=>False
 | .bin d op x y=>match op with
   | .add=>Y6 (Ai σ x) (Ai σ y) (fun a b=>Ask (InI (a+b)) (K d (.val (.int .i64 (a+b))))) (F2 (qR o σ) K)
   | .sub=>Y6 (Ai σ x) (Ai σ y) (fun a b=>Ask (InI (a-b)) (K d (.val (.int .i64 (a-b))))) (F2 (qR o σ) K)
   | .mul=>Y6 (Ai σ x) (Ai σ y) (fun a b=>Ask (InI (a*b)) (K d (.val (.int .i64 (a*b))))) (F2 (qR o σ) K)
   | .quo=>Y6 (Ai σ x) (Ai σ y) (fun a b=>Ask (b≠0∧InI (a.tdiv b)) (K d (.val (.int .i64 (a.tdiv b))))) (F2 (qR o σ) K)
   | .rem=>Y6 (Ai σ x) (Ai σ y) (fun a b=>Ask (b≠0) (K d (.val (.int .i64 (a.tmod b))))) (F2 (qR o σ) K)
   | .shl=>Y6 (Ai σ x) (Ai σ y) (fun a b=>Ask (0≤b) (K d (.val (.int .i64 (Auf a b))))) (F2 (qR o σ) K)
   | .shr=>Y6 (Ai σ x) (Ai σ y) (fun a b=>Ask (0≤b) (K d (.val (.int .i64 (Aty a b))))) (F2 (qR o σ) K)
   | .and=>Y6 (Ai σ x) (Ai σ y) (fun a b=>K d (.val (.int .i64 (Ata a b)))) (F2 (qR o σ) K)
   | .or=>Y6 (Ai σ x) (Ai σ y) (fun a b=>K d (.val (.int .i64 (orI a b)))) (F2 (qR o σ) K)
   | .xor=>Y6 (Ai σ x) (Ai σ y) (fun a b=>K d (.val (.int .i64 (As8 a b)))) (F2 (qR o σ) K)
   | .andNot=>Y6 (Ai σ x) (Ai σ y) (fun a b=>K d (.val (.int .i64 (Aos a b)))) (F2 (qR o σ) K)
   | _=>F2 (qR o σ) K
 | .pick d c x y=>match Ai σ c with
   | .val (.bool b)=>Br b (F2 ((nt (Ai σ x)).map (d,·)) K) (F2 ((nt (Ai σ y)).map (d,·)) K)
   | _=>False
 | .iad d m x i=>match Ai σ x,Ai σ i with
   | .val (.sl _ m' xs),.val (.int _ j)=>Arq d m m' xs j none K
   | .ref r p,.val (.int _ j)=>Ti (look σ r) p fun u=>match u with
     | .sl o m' xs=>match o with
       | true=>Arq d m m' xs j (some (r,p)) K
       | false=>False
     | _=>False
   | _,_=>False
 | .aad d m n x i=>match Er σ (Ai σ x),Ai σ i with
   | some l,.val (.int _ j)=>Ask (0≤j∧j<n) (Idx j 0 n fun j=>Nn (X9 (Ba j.toNat m) l) fun b=>K d b)
   | _,_=>False
 | .ld d n ag x=>match Er σ (Ai σ x) with
   | some (.own r p c)=>Ti (look σ r) p fun u=>Cells u.kids c n fun ks=>Nn (mkA ag (U7 r p c ks)) fun b=>K d b
   | _=>F2 (qR o σ) K
 | .mk d m z x=>match Ai σ x with
   | .val (.int _ n)=>Ask (0≤n∧n≤(LIM:Int)) (MkQ d n.toNat z.up fun l=>K d (.val (.sl true m l)))
   | _=>False
 | .mkc d m _ x=>match Ai σ x with
   | .val (.int _ n)=>Ask (0≤n∧n≤(LIM:Int)) (K d (.val (.sl true m [])))
   | _=>False
 | .bsl d m ps=>match Gg (ps.map (Ai σ)) with
   | some Us=>BslQ d m (upL Us) fun l=>K d (.val (.sl true m l))
   | none=>False
 | .mkr d m z x=>match Ai σ x with
   | .val (.int _ n)=>Ask (0≤n∧n≤(LIM:Int)) (MkQ d n.toNat z.up fun l=>FrzQ (.sl true m l) 0 fun T'=>K d (.val T'))
   | _=>False
 | .bslr d m ps=>match Gg (ps.map (Ai σ)) with
   | some Us=>BslQ d m (upL Us) fun l=>FrzQ (.sl true m l) 0 fun T'=>K d (.val T')
   | none=>False
 | .slc d m x lo hi=>match Ai σ x with
   | .val (.ptr o (.agg cs))=>(match o with
     | true=>False
     | false=>(match Ah5 m cs (lo.map (Ai σ)) (hi.map (Ai σ)) with
       | true=>K d (.val (.sl false 1 cs))
       | false=>False))
   | .val (.sl o m' xs)=>(match o with
     | true=>False
     | false=>(match Nat.beq m' m with
       | true=>(match V9 0 (lo.map (Ai σ)) with
         | some l=>(match hi with
           | none=>Len xs fun n=>SlcQ xs l n fun ys=>K d (.val (.sl false m ys))
           | some y=>(match Age (Ai σ y) with
             | some h=>SlcQ xs l h fun ys=>K d (.val (.sl false m ys))
             | none=>False))
         | none=>False)
       | false=>False))
   | _=>False
 | .len d x=>match Ai σ x with
   | .val (.sl _ _ xs)=>Auj d xs K
   | .ref r p=>Ti (look σ r) p fun u=>match u with
     | .sl _ _ xs=>Auj d xs K
     | _=>False
   | _=>F2 (qR o σ) K
 | .sidx d x i=>(match Ai σ x,Ai σ i with
   | .val (.str s),.val (.int _ j)=>Ask (0≤j∧j<(s.size:Int)) (K d (.val (.int .u8 (Zv s j))))
   | _,_=>False)
 | o=>F2 (qR o σ) K
theorem Afo {d m m':Nat} {xs:List V} {j:Int} {own:Option (Nat×List Nat)} {K:Nat→A→Prop} (h:Arq d m m' xs j own K):m'=m∧0≤j∧j<xs.length∧(match own with
  | none=>K d (.fad (xs.getD j.toNat .dead).cells)
  | some (r,p)=>K d (.addr r p (j.toNat*m))):=by
 unfold Arq at h
 split at h
 ·rename_i hm
  have h1:=h.h
  refine ⟨Nat.eq_of_beq_eq_true hm,h1.p.1,h1.p.2,?_⟩
  cases own with
  | none=>exact h1.x.h
  | some e=>have:=h1.x;simpa [Oe] using this
 exact h.elim
theorem Acj {d m:Nat} {xs:List V} {K:Nat→A→Prop} (h:Amx d m xs K) : ∃ns,m=1∧Lr xs=some ns∧K d (.val (.str (Ac8 ns))):=by
 unfold Amx at h
 split at h
 ·rename_i hm
  obtain ⟨ns,h1,h2⟩:=h.h
  exact ⟨ns,Nat.eq_of_beq_eq_true hm,h1,h2⟩
 exact h.elim
theorem N1 {o:AOp} {σ:St} {K:Nat→A→Prop} (h:Zy o σ K) : ∃d a,qR o σ=some (d,a)∧K d a:=by
 unfold Zy at h
 split at h
 ·rename_i d x k z ok
  split at h
  ·rename_i o es s hx hk
   split at h
   ·exact ⟨_,_,by simp [qR,hx,hk,mpA,Dh,Ajw],h.h⟩
   exact h.elim
  ·rename_i r p s hx hk
   obtain ⟨T,u,hT,hs,hn,hq⟩:=F0 h
   split at hq
   ·exact ⟨_,_,by simp [qR,hx,hk,mpA,hn,Dh,Ajw],hq.h⟩
   exact hq.elim
  exact h.elim
 ·rename_i d x
  split at h
  ·rename_i o m xs hx
   split at h
   ·obtain ⟨ns,h1,h2,h3⟩:=Acj h
    subst h1
    exact ⟨_,_,by simp [qR,hx,slA,h2],h3⟩
   exact h.elim
  ·rename_i r p hx
   obtain ⟨T,u,hT,hs,hn,hq⟩:=F0 h
   split at hq
   ·obtain ⟨ns,h1,h2,h3⟩:=Acj hq
    subst h1
    exact ⟨_,_,by simp [qR,hx,slA,hn,h2],h3⟩
   exact hq.elim
  exact h.elim
 ·rename_i d op x y
  split at h
  case h_12=>exact G0 h
  all_goals
   rcases Aoh h with ⟨a,b,ha,hb,hk⟩ | h
   case inr=>exact G0 h
  ·exact ⟨_,_,by simp [qR,ha,hb,Dh,V.isBool,Nr,Qv hk.p.1 hk.p.2],hk.x⟩
  ·exact ⟨_,_,by simp [qR,ha,hb,Dh,V.isBool,Nr,Qv hk.p.1 hk.p.2],hk.x⟩
  ·exact ⟨_,_,by simp [qR,ha,hb,Dh,V.isBool,Nr,Qv hk.p.1 hk.p.2],hk.x⟩
  ·exact ⟨_,_,by simp [qR,ha,hb,Dh,V.isBool,Nr,hk.p.1,Qv hk.p.2.1 hk.p.2.2],hk.x⟩
  ·exact ⟨_,_,by simp [qR,ha,hb,Dh,V.isBool,Nr,hk.p],hk.x⟩
  ·exact ⟨d,.val (.int .i64 (Auf a b)),by simp [qR,ha,hb,Dh,V.isBool,Nr,Int.not_lt.2 hk.p,Auf],hk.x⟩
  ·exact ⟨d,.val (.int .i64 (Aty a b)),by simp [qR,ha,hb,Dh,V.isBool,Nr,Int.not_lt.2 hk.p,Aty],hk.x⟩
  ·exact ⟨d,.val (.int .i64 (Ata a b)),by simp [qR,ha,hb,Dh,V.isBool,Nr,Ata],hk⟩
  ·exact ⟨d,.val (.int .i64 (orI a b)),by simp [qR,ha,hb,Dh,V.isBool,Nr,orI],hk⟩
  ·exact ⟨d,.val (.int .i64 (As8 a b)),by simp [qR,ha,hb,Dh,V.isBool,Nr,As8],hk⟩
  exact ⟨d,.val (.int .i64 (Aos a b)),by simp [qR,ha,hb,Dh,V.isBool,Nr,Aos],hk⟩
 ·rename_i d c x y
  split at h
  ·rename_i b hb
   cases b
   ·obtain ⟨d',a,h1,h2⟩:=G0 (h.f rfl)
    exact ⟨d',a,by simp only [qR,hb];simpa using h1,h2⟩
   obtain ⟨d',a,h1,h2⟩:=G0 (h.t rfl)
   exact ⟨d',a,by simp only [qR,hb];simpa using h1,h2⟩
  exact h.elim
 ·rename_i d m x i
  split at h
  ·rename_i hx hi
   obtain ⟨h1,h2,h3,h4⟩:=Afo h
   subst h1
   exact ⟨_,_,by simp only [qR,hx,hi,h2,h3,and_self,if_true],h4⟩
  ·rename_i hx hi
   obtain ⟨T,u,hT,hs,hn,hk⟩:=F0 h
   split at hk
   case h_2=>exact hk.elim
   split at hk
   case h_2=>exact hk.elim
   obtain ⟨h1,h2,h3,h4⟩:=Afo hk
   subst h1
   exact ⟨_,_,by simp only [qR,hx,hi,hn,h2,h3,and_self,if_true],h4⟩
  exact h.elim
 ·rename_i d m n x i
  split at h
  ·rename_i hl hi
   have h2:=h.x.h h.p.1 h.p.2
   rw [Kn,Oe] at h2
   exact ⟨_,_,by simp only [qR,hl,hi,h.p.1,h.p.2,and_self,if_true],h2⟩
  exact h.elim
 ·rename_i d n ag x
  split at h
  ·rename_i r p c hl
   obtain ⟨T,u,hT,hs,hn,hk⟩:=F0 h
   obtain ⟨ks,h1,h2,h3⟩:=hk.h
   rw [Kn] at h3
   subst h2
   exact ⟨_,_,by simp [qR,hl,Sv,hn,h1],h3⟩
  exact G0 h
 ·rename_i d m z x
  split at h
  ·rename_i hx
   exact ⟨_,_,by simp [qR,hx,h.p.1,h.p.2],h.x.h⟩
  exact h.elim
 ·rename_i d m z x
  split at h
  ·rename_i hx
   exact ⟨_,_,by simp [qR,hx,h.p.1,h.p.2],h.x⟩
  exact h.elim
 ·rename_i d m ps
  split at h
  ·rename_i Us hU
   exact ⟨_,_,by simp [qR,hU,h.h.1],h.h.2⟩
  exact h.elim
 ·rename_i d m z x
  split at h
  ·rename_i hx
   obtain ⟨T',e1,h1⟩:=h.x.h.h
   rw [Ao] at e1
   subst e1
   exact ⟨_,_,by simp [qR,hx,h.p.1,h.p.2],h1⟩
  exact h.elim
 ·rename_i d m ps
  split at h
  ·rename_i Us hU
   obtain ⟨T',e1,h1⟩:=h.h.2.h
   rw [Ao] at e1
   subst e1
   exact ⟨_,_,by simp [qR,hU,h.h.1],h1⟩
  exact h.elim
 ·rename_i d m x lo hi
  split at h
  case h_3=>exact h.elim
  case h_1=>
   rename_i o cs hx
   split at h
   ·exact h.elim
   ·split at h
    case h_2=>exact h.elim
    rename_i hao
    exact ⟨_,_,by simp only [qR,Ade,hx];rw [if_pos hao];rfl,h⟩
  rename_i o m' xs hx
  split at h
  ·exact h.elim
  split at h
  case h_2=>exact h.elim
  rename_i hm
  have hm':=Nat.eq_of_beq_eq_true hm
  split at h
  case h_2=>exact h.elim
  rename_i l hl
  split at h
  ·obtain ⟨h0,h1,h2,h3⟩:=h.h.h
   have e2:V9 (xs.length:Int) ((none:Option X).map (Ai σ))=some (xs.length:Int):=rfl
   exact ⟨_,_,by simp only [qR,Ade,hx,hl,e2];rw [if_pos ⟨hm',h0,h1,h2⟩];rfl,h3⟩
  rename_i y
  split at h
  case h_2=>exact h.elim
  rename_i hh hy
  obtain ⟨h0,h1,h2,h3⟩:=h.h
  have e2:V9 (xs.length:Int) ((some y).map (Ai σ))=some hh:=hy
  exact ⟨_,_,by simp only [qR,Ade,hx,hl,e2];rw [if_pos ⟨hm',h0,h1,h2⟩];rfl,h3⟩
 ·rename_i d x
  split at h
  ·rename_i hx
   exact ⟨_,_,by simp [qR,hx,Yu],h.h⟩
  ·rename_i hx
   obtain ⟨T,u,hT,hs,hn,hk⟩:=F0 h
   split at hk
   case h_2=>exact hk.elim
   exact ⟨_,_,by simp [qR,hx,Yu,hn],hk.h⟩
  exact G0 h
 ·rename_i d x i
  split at h
  case h_2=>exact h.elim
  rename_i hx hi
  exact ⟨_,_,by simp only [qR,hx,hi];rw [if_pos h.p],h.x⟩
 exact G0 h
def yK (σ:St) (m:Nat) (y:A) (K:List V→St→Prop):Prop:=match y with
 | .val (.sl _ m' ys)=>match Nat.beq m' m with
   | true=>K ys σ
   | false=>False
 | .val (.nilsl _)=>K [] σ
 | .ref r p=>Ti (look σ r) p fun u=>match u with
   | .sl o m' ys=>match o with
     | true=>match Nat.beq m' m with
       | true=>NoOwn ys (K ys σ) (match Fs σ (.ref r p) with
         | some (_,σ1)=>K ys σ1
         | none=>False)
       | false=>False
     | false=>False
   | _=>False
 | _=>False
theorem Am0 {σ:St} {m:Nat} {y:A} {K:List V→St→Prop} (h:yK σ m y K) : ∃ys σ1,yS σ m y=some (ys,σ1)∧K ys σ1:=by
 unfold yK at h
 split at h
 ·split at h
  ·rename_i hm
   exact ⟨_,_,by simp [yS,Nat.eq_of_beq_eq_true hm],h⟩
  exact h.elim
 ·exact ⟨_,_,by simp [yS],h⟩
 ·obtain ⟨T,u,hT,hs,hn,hk⟩:=F0 h
  split at hk
  case h_2=>exact hk.elim
  split at hk
  case h_2=>exact hk.elim
  split at hk
  case h_2=>exact hk.elim
  rename_i hm
  have hm':=Nat.eq_of_beq_eq_true hm
  rcases hk.h with ⟨h1,h2⟩ | ⟨h1,h2⟩
  ·exact ⟨_,_,by simp [yS,hn,hm',h1],h2⟩
  split at h2
  ·rename_i U σ1 ht
   exact ⟨_,_,by simp [yS,hn,hm',h1,ht],h2⟩
  exact h2.elim
 exact h.elim
def Atu:AOp→Bool
 | .mov .. => true
 | .pick .. => true
 | .bin .. => true
 | .binb .. => true
 | .un .. => true
 | .cnv .. => true
 | .len .. => true
 | .ext .. => true
 | .iad .. => true
 | .aad .. => true
 | .fadr .. => true
 | .ld .. => true
 | .nck .. => true
 | .mk .. => true
 | .mkc .. => true
 | .mkr .. => true
 | .bslr .. => true
 | .alc .. => true
 | .mkf .. => true
 | .slc .. => true
 | .sidx .. => true
 | .mkm .. => true
 | .mlk .. => true
 | .bstr .. => true
 | _=>false
def Asp {α:Type} (f:α→V) (l:List α) (i:Nat):List V:=(l.map f).set i .dead
def holeW {α:Type} (f:α→V) (l:List α) (i:Nat) (v:V):List V:=(l.map f).set i v
def X8 (σ:St) (a:A) (K:V→St→Prop):Prop:=match a with
 | .ref r (c::p)=>(match look σ r with
   | .val T=>Aff (c::p) T fun u=>Oh (c::p) T .dead fun T'=>K u (turnP r T' (c::p) σ)
   | _=>False)
 | a=>match Ha σ a with
   | some (v,σ')=>K v σ'
   | none=>False
theorem N0 {σ:St} {a:A} {K:V→St→Prop} (h:X8 σ a K) : ∃v σ',Ha σ a=some (v,σ')∧K v σ':=by
 unfold X8 at h
 split at h
 ·rename_i r c p
  split at h
  case h_2=>exact h.elim
  rename_i T hT
  obtain ⟨u,h1,h2⟩:=Rg h
  obtain ⟨T',h3,h4⟩:=He h2
  exact ⟨u,_,by simp only [Ha,Fs,hT,h1,h3],h4⟩
 split at h
 ·exact ⟨_,_,by assumption,h⟩
 exact h.elim
def Ap7 (o:AOp) (σ:St) (K:St→Prop):Prop:=match o with
 | .mup m k v=>match Ai σ m,Ai σ k,Ai σ v with
   | .ref r p,.val (.str s),.val u=>match vLf u with
     | some x=>match look σ r with
       | .val T=>Aff p T fun nd=>match nd with
         | .mp o es=>(match o with
           | true=>MsQ es s x fun es'=>Oh p T (.mp true es') fun T'=>B0 (F8 r T' (p.length+1) σ) K
           | false=>False)
         | _=>False
       | _=>False
     | none=>False
   | _,_,_=>False
 | .bsl d m ps=>match Ks σ (ps.map (Ai σ)) with
   | some (Us,σ1)=>BslQ d m Us fun l=>B0 (Aw d (.val (.sl true m l)) σ1) K
   | none=>False
 | .app d m x y=>yK σ m (Ai σ y) fun ys σ1=>X8 σ1 (Ai σ1 x) fun v σ2=>match v with
   | .sl o m' xs=>(match o with
     | true=>(match Nat.beq m' m with
       | true=>AppQ d xs ys fun l=>B0 (Aw d (.val (.sl true m l)) σ2) K
       | false=>False)
     | false=>False)
   | _=>False
 | .slt d m x hi=>match Age (Ai σ hi) with
   | some h=>X8 σ (Ai σ x) fun v σ2=>match v with
     | .sl o m' xs=>(match o with
       | true=>(match Nat.beq m' m with
         | true=>SlcQ xs 0 h fun ys=>B0 (Aw d (.val (.sl true m ys)) σ2) K
         | false=>False)
       | false=>False)
     | _=>False
   | none=>False
 | .idx d m n ag x i=>match Ai σ i with
   | .val (.int k j)=>Ask (0≤j∧j<n) (Idx j 0 n fun j=>Aa6 (if Ahq σ (Ai σ x) then Ar8 d m n ag (Ai σ x) (.val (.int k j)) σ else none) K)
   | _=>False
 | .st n x v=>match Ha σ (Ai σ v) with
   | some (U,σ1)=>match Er σ1 (Ai σ1 x) with
     | some (.own r p c)=>match look σ1 r with
       | .val T=>Aff p T fun nd=>match nd.node&&decide (U.cells.length=n)&&C4 U.cells with
         | true=>SetKids nd c U.cells fun nd'=>Oh p T nd' fun T'=>B0 (F8 r T' (p.length+1) σ1) K
         | false=>False
       | _=>False
     | _=>False
   | none=>False
 | .nilq d neg x=>match Ai σ x with
   | .val (.sl o _ xs)=>(match o with
     | true=>False
     | false=>Len xs fun n=>Ask ((0:Int)<(n:Int)) (B0 (Aw d (.val (.bool neg)) σ) K))
   | .ref r p=>Ti (look σ r) p fun u=>match u with
     | .sl _ _ xs=>Len xs fun n=>Ask ((0:Int)<(n:Int)) (B0 (Aw d (.val (.bool neg)) σ) K)
     | _=>False
   | _=>Aa6 (Bx (.nilq d neg x) σ) K
 | o=>Aa6 (Bx o σ) K
theorem Ait {o:AOp} {σ:St} {K:St→Prop} (h:Ap7 o σ K) : ∃σ',Bx o σ=some σ'∧K σ':=by
 unfold Ap7 at h
 split at h
 ·rename_i m k v
  split at h
  case h_2=>exact h.elim
  rename_i r p s u hm hk hv
  split at h
  case h_2=>exact h.elim
  rename_i x hx
  split at h
  case h_2=>exact h.elim
  rename_i T hT
  obtain ⟨nd,hs,hq⟩:=Rg h
  split at hq
  case h_2=>exact hq.elim
  rename_i o es
  split at hq
  case h_2=>exact hq.elim
  obtain ⟨T',h1,h2⟩:=He hq.h
  rw [A5] at h2
  exact ⟨_,by simp [Bx,Aq9,hm,hk,hv,hT,hs,Dh,Ajw,hx,h1],h2⟩
 ·rename_i d m ps
  split at h
  ·rename_i Us σ1 hU
   obtain ⟨h1,h2⟩:=h.h
   rw [A5] at h2
   exact ⟨_,by simp [Bx,Aj2,hU,h1],h2⟩
  exact h.elim
 ·rename_i d m x y
  obtain ⟨ys,σ1,hy,hk⟩:=Am0 h
  obtain ⟨v,σ2,hX,hk⟩:=N0 hk
  split at hk
  case h_2=>exact hk.elim
  rename_i o m' xs
  split at hk
  case h_2=>exact hk.elim
  split at hk
  case h_2=>exact hk.elim
  rename_i hm
  have hm':=Nat.eq_of_beq_eq_true hm
  obtain ⟨h1,h2,h3⟩:=hk.h
  rw [A5] at h3
  exact ⟨_,by simp [Bx,Anh,hy,hX,hm',h1,h2],h3⟩
 ·rename_i d m x hi
  split at h
  case h_2=>exact h.elim
  rename_i hh hn
  obtain ⟨v,σ2,hX,hk⟩:=N0 h
  split at hk
  case h_2=>exact hk.elim
  rename_i o m' xs
  split at hk
  case h_2=>exact hk.elim
  split at hk
  case h_2=>exact hk.elim
  rename_i hm
  have hm':=Nat.eq_of_beq_eq_true hm
  obtain ⟨_,h1,h2,h3⟩:=hk.h
  rw [A5] at h3
  exact ⟨_,by simp only [Bx,Aop,hn,hX,hm',h1,h2,and_self,if_true],h3⟩
 ·rename_i d m n ag x i
  split at h
  case h_2=>exact h.elim
  rename_i hi
  obtain ⟨σ',h1,h2⟩:=Th (h.x.h h.p.1 h.p.2)
  exact ⟨σ',by simp only [Bx,hi];exact h1,h2⟩
 ·rename_i n x v
  split at h
  case h_2=>exact h.elim
  rename_i U σ1 ht
  split at h
  case h_2=>exact h.elim
  rename_i r p c hl
  split at h
  case h_2=>exact h.elim
  rename_i T hT
  obtain ⟨u,hs,hk⟩:=Rg h
  split at hk
  case h_2=>exact hk.elim
  rename_i hc
  obtain ⟨nd',h1,h2⟩:=hk.h
  obtain ⟨T',h3,h4⟩:=He h2
  rw [A5] at h4
  exact ⟨_,by simp only [Bx,Ahg,ht,hl,hT,hs,hc,h1,h3,if_true],h4⟩
 ·rename_i d neg x
  split at h
  ·rename_i o m xs e
   split at h
   ·exact h.elim
   obtain ⟨h1,h2⟩:=h.h
   rw [A5] at h2
   refine ⟨_,?_,h2⟩
   match xs,h1 with
   | [],h1=>simp at h1
   | y::ys,_=>simp [Bx,Amj,e,Aee]
  ·rename_i r p e
   obtain ⟨T,u,hT,hs,hn,hk⟩:=F0 h
   split at hk
   case h_2=>exact hk.elim
   rename_i o m xs
   obtain ⟨h1,h2⟩:=hk.h
   rw [A5] at h2
   refine ⟨_,?_,h2⟩
   match xs,h1,hn with
   | [],h1,_=>simp at h1
   | y::ys,_,hn=>simp [Bx,Amj,e,Aee,hn]
  exact Th h
 exact Th h
def Af3 (o:AOp) (σ:St) (K:St→Prop):Prop:=match Atu o with
 | true=>Zy o σ fun d a=>B0 (Aw d a σ) K
 | false=>Ap7 o σ K
theorem Ou {o:AOp} {σ:St} {K:St→Prop} (h:Af3 o σ K) : ∃σ',Bx o σ=some σ'∧K σ':=by
 unfold Af3 at h
 split at h
 ·obtain ⟨d,a,h1,h2⟩:=N1 h
  rw [A5] at h2
  exact ⟨_,(Aga h1).1,h2⟩
 exact Ait h
structure CallQ (P:Program) (f d:Nat) (vs:List V) (ls:List (Nat×Nat×List Nat)) (rs:List Nat) (K:St→Prop) (σ:St):Prop where
 h:Gp σ ls rs=true∧Tri P f vs (Ee d ls rs K σ)
structure CallP (P:Program) (f d:Nat) (vs:List V) (rs:List Nat) (K:V→Prop):Prop where
 h : ∃v,Tri P f vs (fun res _=>res=v∧D7 rs v=true)∧K v
structure CloP (P:Program) (f d:Nat) (cs vs:List V) (rs:List Nat) (K:V→Prop):Prop where
 h : ∃v,Tri P f (vs++fzL cs) (fun res _=>res=v∧D7 rs v=true)∧K v
structure CloQ (P:Program) (f d:Nat) (cs vs:List V) (rs:List Nat) (K:St→Prop) (σ:St):Prop where
 h:Tri P f (vs++fzL cs) (Ee d [] rs K σ)
def Ai5 (σ:St) (a:A) (io:Bool) (k:Nat) (K:V→List (Nat×Nat×List Nat)→List Nat→Prop):Prop:=match a with
 | .val v=>K v.fz [] []
 | .ref r p=>Ti (look σ r) p fun u=>match io&&u.node with
   | true=>K u [(k,r,p)] []
   | false=>K u.fz [] [r]
 | a=>match I7 σ a with
   | some v=>K v [] a.roots
   | none=>False
def S7 (σ:St):List (A×Bool)→Nat→(List V→List (Nat×Nat×List Nat)→List Nat→Prop)→Prop
 | [],_,K=>K [] [] []
 | (a,io)::rest,k,K=>Ai5 σ a io k fun v ls' rs'=>S7 σ rest (k+1) fun vs ls rs=>K (v::vs) (ls'++ls) (rs'++rs)
theorem Aoe {σ:St} {a:A} {io:Bool} {k:Nat} {K:V→List (Nat×Nat×List Nat)→List Nat→Prop} (h:Ai5 σ a io k K) :
  (∃r p u,io=true∧M7 σ a=some (r,p,u)∧K u [(k,r,p)] [])∨((io=true→M7 σ a=none) ∧ ∃v,I7 σ a=some v∧K v [] a.roots):=by
 cases a with
 | val v=>exact .inr ⟨fun _=>rfl,_,rfl,h⟩
 | ref r p=>
   obtain ⟨T,u,hT,hs,hn,hk⟩:=F0 h
   split at hk
   ·rename_i hb
    simp only [Bool.and_eq_true] at hb
    exact .inl ⟨r,p,u,hb.1,by simp [M7,hn,hb.2],hk⟩
   ·rename_i hb
    refine .inr ⟨fun hi=> ?_,u.fz,by simp [I7,hn],hk⟩
    simp only [M7,hn]
    cases hu:u.node with
    | false=>rfl
    | true=>rw [hi,hu] at hb;cases hb
 | top=>simp [Ai5,I7] at h
 | addr r p c=>simp [Ai5,I7] at h
 | fad cs=>simp [Ai5,I7] at h
 | tie b f p q=>simp [Ai5,I7] at h
 | agg as=>
   simp only [Ai5] at h
   split at h
   ·exact .inr ⟨fun _=>rfl,_,by assumption,h⟩
   ·exact h.elim
 | clo f as=>
   simp only [Ai5] at h
   split at h
   ·exact .inr ⟨fun _=>rfl,_,by assumption,h⟩
   ·exact h.elim
theorem G7 {σ:St} : ∀ {as:List (A×Bool)} {k:Nat} {K:List V→List (Nat×Nat×List Nat)→List Nat→Prop},S7 σ as k K → ∃vs ls rs,Do σ as k=some (vs,ls,rs)∧K vs ls rs:=by
 intro as
 induction as with
 | nil=>intro k K h;exact ⟨[],[],[],rfl,h⟩
 | cons e rest ih=>
   intro k K h
   obtain ⟨a,io⟩:=e
   simp only [S7] at h
   rcases Aoe h with ⟨r,p,u,h1,h2,h3⟩ | ⟨h1,v,h2,h3⟩
   ·obtain ⟨vs,ls,rs,h4,h5⟩:=ih h3
    exact ⟨_,_,_,by simp [Do,h4,h1,h2],h5⟩
   ·obtain ⟨vs,ls,rs,h4,h5⟩:=ih h3
    refine ⟨_,_,_,?_,h5⟩
    simp only [Do,h4]
    have:(if io=true then M7 σ a else none)=none:=by split<;>simp_all
    simp [this,h2]
structure LendQ (P:Program) (f d n:Nat) (bs:List A) (vs:List V) (ls:List (Nat×Nat×List Nat)) (rs:List Nat) (K:St→Prop) (σ:St):Prop where
 h:Gp σ ls rs=true∧Tri P f (Aij n bs.length vs) (Pk n (Ee d ls rs K σ))
structure CallT (P:Program) (f m j d:Nat) (vs:List V) (ls:List (Nat×Nat×List Nat)) (rs:List Nat) (K:St→Prop) (σ:St):Prop where
 h:Gp σ ls rs=true∧Ak2 P f m j vs (Ee d ls rs K σ)
def Amv (P:Program) (f d:Nat) (as:List (A×Bool)) (K:St→Prop) (σ:St):Prop:=match In as with
 | some (pre,bs,rest)=>S7 σ (pre++(bs.map (·,true)++rest)) 0 fun vs ls rs=>LendQ P f d pre.length bs vs ls rs K σ
 | none=>S7 σ as 0 fun vs ls rs=>CallQ P f d vs ls rs K σ
def opK (P:Program) (o:AOp) (σ:St) (K:St→Prop):Prop:=match o with
 | .call d f as=>Amv P f d (C8 σ as) K σ
 | .cally d x as ms=>match Ai σ x with
   | .val (.clo f cs)=>S7 σ (C8 σ (as.map (·,false))) 0 fun vs ls rs=>match ls with
     | []=>CloQ P f d cs vs rs K σ
     | _=>False
   | .val (.fclo f cs)=>S7 σ (C8 σ (as.map (·,false))) 0 fun vs ls rs=>match ls with
     | []=>CloQ P f d cs vs rs K σ
     | _=>False
   | .clo f cs=>Amv P f d (C8 σ (as.map (·,false))++Wf ms cs) K σ
   | .tie true f p q=>S7 σ (C8 σ (as.map (·,false))++Wf ms (p ++ .val .dead::q)) 0 fun vs ls rs=>CallT P f as.length p.length d vs ls rs K σ
   | _=>False
 | .slc d m (.t s) lo hi=>(match look σ s with
   | .val T=>(match T.hasOwn with
     | true=>B0 (Aai s σ) fun σ'=>Af3 (.slc d m (.t s) lo hi) σ' K
     | false=>Af3 (.slc d m (.t s) lo hi) σ K)
   | _=>Af3 (.slc d m (.t s) lo hi) σ K)
 | o=>Af3 o σ K
theorem Zp {P:Program} {f d:Nat} {as:List (A×Bool)} {K:St→Prop} {σ:St} (h:Amv P f d as K σ):Gs P f d as K σ:=by
 unfold Amv at h
 unfold Gs
 split at h
 ·rename_i e
  simp only [e]
  obtain ⟨vs,ls,rs,h1,h2⟩:=G7 h
  rw [h1];exact h2.h
 rename_i e
 simp only [e]
 obtain ⟨vs,ls,rs,h1,h2⟩:=G7 h
 rw [h1];exact h2.h
theorem X7 {P:Program} {o:AOp} {σ:St} {K:St→Prop} (h:opK P o σ K):Pm P o K σ:=by
 unfold opK at h
 unfold Pm
 split at h
 ·exact Zp h
 ·split at h
  ·rename_i e
   obtain ⟨vs,ls,rs,h1,h2⟩:=G7 h
   split at h2
   case h_2=>exact h2.elim
   simp only [e,Sh]
   unfold Gs
   rw [Vt]
   simp only
   rw [Qw (fun k=>Wa _ k) h1]
   exact ⟨rfl,h2.h⟩
  ·rename_i e
   obtain ⟨vs,ls,rs,h1,h2⟩:=G7 h
   split at h2
   case h_2=>exact h2.elim
   simp only [e,Sh]
   unfold Gs
   rw [Vt]
   simp only
   rw [Qw (fun k=>Wa _ k) h1,Tq]
   exact ⟨rfl,h2.h⟩
  ·rename_i e
   simp only [e,Sh];exact Zp h
  ·rename_i e
   obtain ⟨vs,ls,rs,h1,h2⟩:=G7 h
   simp only [e,Sh,Aoo]
   unfold Nc
   rw [h1];exact h2.h
  exact h.elim
 ·rename_i d m s lo hi
  simp only [Xm]
  split at h
  ·rename_i T hT
   simp only [hT]
   split at h
   ·rename_i ho
    rw [A5] at h
    obtain ⟨σ',e,hk⟩:=Ou h
    simp only [ho]
    rw [e];exact hk
   rename_i ho
   obtain ⟨σ',e,hk⟩:=Ou h
   simp only [ho]
   rw [e];exact hk
  rename_i hne
  obtain ⟨σ',e,hk⟩:=Ou h
  split
  ·rename_i σ2 he
   split at he
   ·rename_i T hT;exact absurd hT (hne T)
   rw [e] at he;cases he;exact hk
  rename_i he
  split at he
  ·rename_i T hT;exact absurd hT (hne T)
  rw [e] at he;cases he
 rename_i h1 h2 h3
 obtain ⟨σ',e,hk⟩:=Ou h
 have hp:Xm o σ=σ:=by
  unfold Xm
  split
  ·exact absurd rfl (h3 _ _ _ _ _)
  ·rfl
 split
 ·exact absurd rfl (h1 _ _ _)
 ·exact absurd rfl (h2 _ _ _ _)
 rw [hp,e];exact hk
def Akw (P:Program) (o:AOp) (σ:St) (K:St→Prop):Prop:=match o with
 | .call d f as=>(match Afd as with
   | []=>opK P (.call d f as) σ K
   | _::_=>B0 (Vz as σ) fun τ=>opK P (.call d f as) τ K)
 | o=>opK P o σ K
theorem Adb {P:Program} {o:AOp} {σ:St} {K:St→Prop} (h:Akw P o σ K):Ly P o K σ:=by
 unfold Akw at h
 unfold Ly
 split at h
 ·simp only [Si]
  split at h
  ·rename_i e
   simp only [e]
   exact X7 h
  rename_i e
  rw [A5] at h
  simp only [e]
  exact X7 h
 rename_i h1
 have hp:Si o σ=σ:=by
  unfold Si
  split
  ·exact absurd rfl (h1 _ _ _)
  ·rfl
 rw [hp]
 exact X7 h
def Mu (P:Program):List G→(St→Prop)→St→Prop
 | [],K,σ=>K σ
 | ⟨none,o⟩::r,K,σ=>Akw P o σ (Mu P r K)
 | ⟨some (s,true),o⟩::r,K,σ=>match look σ s with
   | .val (.bool b)=>Br b (B0 (Jt s true σ) fun τ=>Akw P o τ (Mu P r K)) (B0 (Sw o (Jt s false σ)) (Mu P r K))
   | .val (.tup [])=>B0 (Sw o σ) (Mu P r K)
   | _=>False
 | ⟨some (s,false),o⟩::r,K,σ=>match look σ s with
   | .val (.bool b)=>Br b (B0 (Sw o (Jt s true σ)) (Mu P r K)) (B0 (Jt s false σ) fun τ=>Akw P o τ (Mu P r K))
   | .val (.tup [])=>B0 (Sw o σ) (Mu P r K)
   | _=>False
theorem Nw {P:Program} : ∀ {gs:List G} {K:St→Prop} {σ:St},Mu P gs K σ→Ej P gs K σ:=by
 intro gs
 induction gs with
 | nil=>intro K σ h;exact h
 | cons x r ih=>
   intro K σ h
   obtain ⟨g,o⟩:=x
   have run : ∀ {τ},Akw P o τ (Mu P r K)→Ly P o (Ej P r K) τ:=fun h=>Iu (fun _=>ih) (Adb h)
   match g,h with
   | none,h=>exact run h
   | some (s,true),h=>
     simp only [Mu] at h
     simp only [Ej]
     split at h
     ·rename_i b hb
      simp only [hb]
      refine ⟨fun e=> ?_,fun e=> ?_⟩
      ·subst e
       have:=h.t rfl
       rw [A5,Mt hb] at this
       exact run this
      ·have e':b=false:=by simpa using e
       subst e'
       have:=h.f rfl
       rw [A5,Mt hb] at this
       exact ih this
     ·rename_i hb
      simp only [hb]
      rw [A5] at h;exact ih h
     ·exact h.elim
   | some (s,false),h=>
     simp only [Mu] at h
     simp only [Ej]
     split at h
     ·rename_i b hb
      simp only [hb]
      refine ⟨fun e=> ?_,fun e=> ?_⟩
      ·subst e
       have:=h.f rfl
       rw [A5,Mt hb] at this
       exact run this
      ·have e':b=true:=by simpa using e
       subst e'
       have:=h.t rfl
       rw [A5,Mt hb] at this
       exact ih this
     ·rename_i hb
      simp only [hb]
      rw [A5] at h;exact ih h
     ·exact h.elim
def yNK (σ:St) (m s:Nat) (y:A) (K:List V→Prop):Prop:=match y with
 | .val (.sl _ m' ys)=>(match Nat.beq m' m with
   | true=>K ys
   | false=>False)
 | .val (.nilsl _)=>K []
 | .ref r p=>(match Nat.beq r s with
   | true=>False
   | false=>Ti (look σ r) p fun u=>match u with
     | .sl o m' ys=>(match o with
       | true=>(match Nat.beq m' m with
         | true=>NoOwn ys (K ys) False
         | false=>False)
       | false=>False)
     | _=>False)
 | _=>False
theorem Api {σ:St} {m s:Nat} {y:A} {K:List V→Prop} (h:yNK σ m s y K) : ∃ys,yN σ m s y=some ys∧K ys:=by
 unfold yNK at h
 split at h
 ·split at h
  ·rename_i hm
   exact ⟨_,by simp [yN,Nat.eq_of_beq_eq_true hm],h⟩
  exact h.elim
 ·exact ⟨_,by simp [yN],h⟩
 ·split at h
  ·exact h.elim
  rename_i hrs
  obtain ⟨T,u,hT,hs,hn,hk⟩:=F0 h
  split at hk
  case h_2=>exact hk.elim
  split at hk
  case h_2=>exact hk.elim
  split at hk
  case h_2=>exact hk.elim
  rename_i hm
  have hm':=Nat.eq_of_beq_eq_true hm
  have hne : ∀ {r:Nat},Nat.beq r s=false→r≠s:=by
   intro r h1 h2;subst h2;simp at h1
  rcases hk.h with ⟨h1,h2⟩ | ⟨_,h2⟩
  ·exact ⟨_,by simp [yN,hn,hm',h1,hne hrs],h2⟩
  exact h2.elim
 exact h.elim
def Acy:List Nat→(List Nat→Prop)→Prop
 | [],K=>K []
 | n::r,K=>Acy r fun s=>K (n::s)
theorem Afs : ∀(l:List Nat) (K:List Nat→Prop),Acy l K=K l:=by
 intro l
 induction l with
 | nil=>intro K;rfl
 | cons n r ih=>intro K;simp only [Acy];rw [ih]
def Aln (P:Program) (o:AOp) (σ:St) (K:Nat→A→List Nat→Prop):Prop:=match o with
 | .call d f as=>match as.all (fun e => !e.2) with
   | true=>S7 σ (C8 σ as) 0 fun vs ls rs=>match ls with
     | []=>CallP P f d vs rs fun v=>K d (.val v) []
     | _=>False
   | false=>False
 | .cally d x as _=>(match Ai σ x with
   | .val (.fclo f cs)=>S7 σ (C8 σ (as.map (·,false))) 0 fun vs ls rs=>match ls with
     | []=>CloP P f d cs vs rs fun v=>K d (.val v) []
     | _=>False
   | _=>False)
 | .app d m (.t s) y=>(match look σ s with
   | .val (.sl o m' xs)=>(match o with
     | true=>(match Nat.beq m' m with
       | true=>yNK σ m s (Ai σ y) fun ys=>AppQ d xs ys fun l=>K d (.val (.sl true m l)) [s]
       | false=>False)
     | false=>False)
   | _=>False)
 | .bsl d m ps=>(match L3 σ ps with
   | some (Us,ks)=>BslQ d m Us fun l=>Acy ks fun ks=>K d (.val (.sl true m l)) ks
   | none=>False)
 | .asg d (.t s)=>(match look σ s with
   | .val v=>(match v.hasOwn with
     | true=>Nn (.val v) fun a=>K d a [s]
     | false=>Nn (.val v.up) fun a=>K d a [])
   | _=>False)
 | o=>Zy o σ fun d a=>K d a []
theorem Agc {P:Program} {o:AOp} {σ:St} {K:Nat→A→List Nat→Prop} (h:Aln P o σ K):L8 P o σ K:=by
 unfold Aln at h
 unfold L8
 split at h
 ·split at h
  case h_2=>exact h.elim
  rename_i hio
  refine ⟨hio,?_⟩
  obtain ⟨vs,ls,rs,h1,h2⟩:=G7 h
  split at h2
  case h_2=>exact h2.elim
  rw [h1]
  exact h2.h
 ·split at h
  case h_2=>exact h.elim
  rename_i hx
  obtain ⟨vs,ls,rs,h1,h2⟩:=G7 h
  split at h2
  case h_2=>exact h2.elim
  simp only [hx,h1]
  exact h2.h
 ·split at h
  case h_2=>exact h.elim
  rename_i hL
  split at h
  case h_2=>exact h.elim
  split at h
  case h_2=>exact h.elim
  rename_i hm
  obtain ⟨ys,h1,h2⟩:=Api h
  simp only [hL,h1]
  obtain ⟨k1,k2,k3⟩:=h2.h
  exact ⟨⟨trivial,Nat.eq_of_beq_eq_true hm,k1,k2⟩,k3⟩
 ·split at h
  case h_2=>exact h.elim
  rename_i ht
  obtain ⟨k1,k2⟩:=h.h
  rw [Afs] at k2
  simp only [ht]
  exact ⟨k1,k2⟩
 ·split at h
  case h_2=>exact h.elim
  rename_i hL
  split at h
  ·rename_i hv
   rw [Kn] at h
   simp only [hL,hv];exact h
  rename_i hv
  rw [Kn] at h
  simp only [hL,hv];exact h
 rename_i h1 h0 h2 h3 h4
 obtain ⟨d,a,e,hk⟩:=N1 h
 split
 ·exact absurd rfl (h1 _ _ _)
 ·exact absurd rfl (h0 _ _ _ _)
 ·exact absurd rfl (h2 _ _ _ _)
 ·exact absurd rfl (h3 _ _ _)
 ·exact absurd rfl (h4 _ _)
 rw [e];exact hk
def hk (hide kl:List Nat):List Nat:=match kl with
 | []=>hide
 | k::r=>hide++(k::r)
theorem Ah7 (hide kl:List Nat):hk hide kl=hide++kl:=by
 cases kl with
 | nil=>simp [hk]
 | cons k r=>rfl
def Apa (acc:St) (kl:List Nat):Bool:=match kl with
 | []=>true
 | k::r=>K2 acc (k::r)
theorem Afp {acc:St} {kl:List Nat} (h:Apa acc kl=true):K2 acc kl=true:=by
 cases kl with
 | nil=>unfold K2;simp
 | cons k r=>exact h
def Al7 (kl:List Nat) (acc:St):St:=match kl with
 | []=>acc
 | k::r=>Du (k::r) acc
theorem Ah3 (kl:List Nat) (acc:St):Al7 kl acc=Du kl acc:=by
 cases kl with
 | nil=>
   simp only [Al7]
   induction acc with
   | nil=>rfl
   | cons e r ih=>obtain ⟨d,a⟩:=e;simp [Du,←ih]
 | cons k r=>rfl
structure LendP (P:Program) (f d:Nat) (vs:List V) (rs:List Nat) (k:Nat) (p:List Nat) (T:V) (K:V→V→Prop):Prop where
 h : ∃v u T',Tri P f vs (fun res outs=>res=v∧outs[k]? = some u)∧(D7 rs v=true∧D7 rs u=true∧u.node=true∧upd p T u=some T')∧K v T'
def Agl (P:Program) (o:AOp) (s:Nat) (σ:St) (K:Nat→V→Nat×V×Nat→Prop):Prop:=match o with
 | .call d f as=>(match In (C8 σ as) with
   | some _=>False
   | none=>S7 σ (C8 σ as) 0 fun vs ls rs=>match ls with
     | [(k,r,p)]=>(match Nat.beq r s && !rs.contains r with
       | true=>(match look σ r with
         | .val T=>LendP P f d vs rs k p T fun v T'=>K d v (r,T',p.length+1)
         | _=>False)
       | false=>False)
     | _=>False)
 | _=>False
theorem Aex {P:Program} {o:AOp} {s:Nat} {σ:St} {K:Nat→V→Nat×V×Nat→Prop} (h:Agl P o s σ K):S0 P o s σ K:=by
 unfold Agl at h
 unfold S0
 split at h
 case h_2=>exact h.elim
 split at h
 ·exact h.elim
 rename_i hgv
 obtain ⟨vs,ls,rs,h1,h2⟩:=G7 h
 split at h2
 case h_2=>exact h2.elim
 rename_i k r p
 split at h2
 case h_2=>exact h2.elim
 rename_i hb
 simp only [Bool.and_eq_true,Bool.not_eq_true'] at hb
 split at h2
 case h_2=>exact h2.elim
 rename_i T hT
 simp only [hgv,h1,hT]
 exact ⟨⟨Nat.eq_of_beq_eq_true hb.1,hb.2⟩,h2.h⟩
def Acb (ls hide:List Nat) (cs:List (Nat×V×Nat)) (σ:St):St:=match ls with
 | []=>σ
 | l::q=>Jy (l::q) hide cs σ
theorem Aog (σ:St):Uw [] σ=σ:=by
 induction σ with
 | nil=>rfl
 | cons e r ih=>
   obtain ⟨k,a⟩:=e
   simp [Uw,ih]
theorem Apz {ls hide:List Nat} {cs:List (Nat×V×Nat)} {σ:St} (hc : ∀c∈cs,ls.contains c.1=true):Acb ls hide cs σ=Jy ls hide cs σ:=by
 cases ls with
 | nil=>
   have:cs=[]:=by
    cases cs with
    | nil=>rfl
    | cons c q=>have:=hc c (by simp);simp at this
   subst this
   simp only [Acb,Jy,List.filter_nil,Fa]
   have:(List.filter (fun x=>([]:List Nat).contains x) hide)=[]:=by simp
   rw [this,Aog]
 | cons l q=>rfl
abbrev Aks:=St→List Nat→List (Nat×V×Nat)→(St→Prop)→Prop
def Al0 (σ0 acc:St) (o:AOp) (hide kl:List Nat) (cs:List (Nat×V×Nat)) (K:St→Prop) (ih:Aks) (acc1:St) (d:Nat) (a:A) (ks:List Nat):Prop:=match Oa d acc σ0 with
 | true=>(match ks with
   | []=>B0 (acc1++[(d,a.mapR (Au d 0))]) fun acc'=>ih acc' kl cs K
   | k::q=>(match V7 (k::q) o (Du (hk hide kl) acc) with
     | true=>B0 (acc1++[(d,a.mapR (Au d 0))]) fun acc'=>Acy (kl++(k::q)) fun kl'=>ih acc' kl' cs K
     | false=>False))
 | false=>False
def Tx (σ0 acc:St) (o:AOp) (kl:List Nat) (cs:List (Nat×V×Nat)) (K:St→Prop) (ih:Aks) (acc1:St):Prop:=match o.dst with
 | some d=>(match Oa d acc σ0 with
   | true=>B0 (acc1++[(d,.val (.tup []))]) fun acc'=>ih acc' kl cs K
   | false=>False)
 | none=>False
def Abd (P:Program) (ls:List Nat) (σ0 acc:St) (o:AOp) (hide kl:List Nat) (cs:List (Nat×V×Nat)) (K:St→Prop) (ih:Aks) (acc1:St):Prop:=
 B0 (Du (hk hide kl) acc1++Acb ls hide cs σ0) fun σh=>Aln P o σh (Al0 σ0 acc o hide kl cs K ih acc1)
def Al6 (P:Program) (ls:List Nat) (σ0 acc:St) (o:AOp) (s:Nat) (hide kl:List Nat) (cs:List (Nat×V×Nat)) (K:St→Prop) (ih:Aks):Prop:=
 B0 (Du (hk hide kl) acc++Acb ls hide.tail cs σ0) fun σh=>Agl P o s σh fun d v c=>match Oa d acc σ0&&ls.contains s&&Alr (look σ0 s)&&Nat.beq c.1 s with
  | true=>B0 (acc++[(d,.val v)]) fun acc'=>ih acc' kl (cs++[c]) K
  | false=>False
def Xj (P:Program) (ls:List Nat) (σ0:St) (x:G×List Nat) (ih:Aks) (acc:St) (kl:List Nat) (cs:List (Nat×V×Nat)) (K:St→Prop):Prop:=match x with
 | (⟨none,o⟩,hide)=>(match I8 o hide with
   | []=>Abd P ls σ0 acc o hide kl cs K ih acc
   | s::_=>Al6 P ls σ0 acc o s hide kl cs K ih)
 | (⟨some (s,true),o⟩,hide)=>(match (hk hide kl).contains s || !(I8 o hide).isEmpty with
   | true=>False
   | false=>(match look (Du (hk hide kl) acc++Acb ls hide cs σ0) s with
     | .val (.bool b)=>Br b (Abd P ls σ0 acc o hide kl cs K ih (Jt s true acc)) (Tx σ0 acc o kl cs K ih (Jt s false acc))
     | .val (.tup [])=>Tx σ0 acc o kl cs K ih acc
     | _=>False))
 | (⟨some (s,false),o⟩,hide)=>(match (hk hide kl).contains s || !(I8 o hide).isEmpty with
   | true=>False
   | false=>(match look (Du (hk hide kl) acc++Acb ls hide cs σ0) s with
     | .val (.bool b)=>Br b (Tx σ0 acc o kl cs K ih (Jt s true acc)) (Abd P ls σ0 acc o hide kl cs K ih (Jt s false acc))
     | .val (.tup [])=>Tx σ0 acc o kl cs K ih acc
     | _=>False))
def Akx (σ0 acc:St) (kl:List Nat) (cs:List (Nat×V×Nat)) (K:St→Prop):Prop:=match Apa acc kl with
 | true=>(match cs with
   | []=>B0 (Al7 kl acc++σ0) K
   | c::q=>(match Zi acc (c::q) with
     | true=>B0 (Al7 kl acc++Fa (c::q) σ0) K
     | false=>False))
 | false=>False
def Aft (P:Program) (ls:List Nat) (σ0:St) (l:List (G×List Nat)):Aks:=
 List.rec (motive:=fun _=>Aks) (Akx σ0) (fun x _ ih=>Xj P ls σ0 x ih) l
theorem Qm {hide:List Nat} {acc σ0:St} {s:Nat} {b:Bool} (h:look (Du hide acc++σ0) s = .val (.bool b)) (hh:hide.contains s=false):Jt s b acc=acc:=by
 rw [Ep] at h
 split at h
 ·rw [Vi _ _ _ hh] at h
  exact Mt h
 rename_i hk
 rw [Tm] at hk
 have hk':A9 s acc=false:=by
  rw [hh] at hk;simpa using hk
 clear h hk
 induction acc with
 | nil=>rfl
 | cons e r ih=>
   obtain ⟨k,a⟩:=e
   simp only [A9,Bool.or_eq_false_iff,beq_eq_false_iff_ne] at hk'
   simp only [Jt]
   rw [show Nat.beq k s=false by
    cases hb:Nat.beq k s with
    | false=>rfl
    | true=>exact absurd (Nat.eq_of_beq_eq_true hb) hk'.1]
   simp only [ih hk'.2]
theorem Als {P:Program} {o:AOp} {σ:St} {c c':Nat→A→List Nat→Prop} (h : ∀d a ks,c d a ks→c' d a ks) (ha:L8 P o σ c):L8 P o σ c':=Vp h ha
theorem Zs {P:Program} {ls:List Nat} {σ0:St} : ∀ {l:List (G×List Nat)} {acc:St} {kl:List Nat} {cs:List (Nat×V×Nat)} {KS:List (List Nat)} {CS:List (List (Nat×V×Nat))} {K:St→Prop},KS.flatten=kl→CS.flatten=cs→(∀c∈cs,ls.contains c.1=true)→Aft P ls σ0 l acc kl cs K→E8 P ls σ0 l acc KS CS K:=by
 intro l
 induction l with
 | nil=>
   intro acc kl cs KS CS K hkl hcs hin h
   subst hkl
   change Akx σ0 acc KS.flatten cs K at h
   simp only [Akx] at h
   split at h
   ·rename_i hr
    split at h
    ·rw [A5,Ah3] at h
     refine ⟨⟨Afp hr,?_⟩,?_⟩
     ·rw [hcs];unfold Zi;simp
     ·rw [hcs];exact h
    ·split at h
     ·rename_i hr2
      rw [A5,Ah3] at h
      rw [←hcs] at h hr2
      exact ⟨⟨Afp hr,hr2⟩,h⟩
     ·exact h.elim
   ·exact h.elim
 | cons x r ih=>
   intro acc kl cs KS CS K hkl hcs hin h
   subst hkl
   obtain ⟨⟨g,o⟩,hide⟩:=x
   change Xj P ls σ0 (⟨g,o⟩,hide) (Aft P ls σ0 r) acc KS.flatten cs K at h
   have hbk : ∀hide,Acb ls hide cs σ0=Jy ls hide CS.flatten σ0:=fun hide=>by rw [Apz hin,hcs]
   have run:Abd P ls σ0 acc o hide KS.flatten cs K (Aft P ls σ0 r) acc→L8 P o (Du (hide++KS.flatten) acc++Jy ls hide CS.flatten σ0) fun d a ks=>(Oa d acc σ0=true∧V7 ks o (Du (hide++KS.flatten) acc)=true)∧E8 P ls σ0 r (acc++[(d,a.mapR (Au d 0))]) (KS++[ks]) (CS++[[]]) K:=by
    intro h
    unfold Abd at h
    rw [A5,Ah7,hbk] at h
    refine Als ?_ (Agc h)
    intro d a ks hk
    unfold Al0 at hk
    rw [Ah7] at hk
    split at hk
    ·rename_i hf
     split at hk
     ·rw [A5] at hk
      exact ⟨⟨hf,rfl⟩,ih (by simp) (by simp [hcs]) hin hk⟩
     ·split at hk
      ·rename_i hkk
       rw [A5,Afs] at hk
       exact ⟨⟨hf,hkk⟩,ih (by simp) (by simp [hcs]) hin hk⟩
      ·exact hk.elim
    ·exact hk.elim
   have skip:Tx σ0 acc o KS.flatten cs K (Aft P ls σ0 r) acc→(match o.dst with
      | some d=>Oa d acc σ0=true∧E8 P ls σ0 r (acc++[(d,.val (.tup []))]) (KS++[[]]) (CS++[[]]) K
      | none=>False):=by
    intro h
    unfold Tx at h
    cases hd:o.dst with
    | none=>rw [hd] at h;exact h.elim
    | some d=>
      rw [hd] at h
      cases hf:Oa d acc σ0 with
      | false=>simp only [hf] at h
      | true=>
        simp only [hf] at h
        rw [A5] at h
        exact ⟨hf,ih (by simp) (by simp [hcs]) hin h⟩
   match g,h with
   | none,h=>
     simp only [Xj] at h
     simp only [E8]
     cases hlo:I8 o hide with
     | nil=>rw [hlo] at h;exact run h
     | cons s q=>
       rw [hlo] at h
       simp only at h ⊢
       unfold Al6 at h
       rw [A5,Ah7,hbk] at h
       refine Zx ?_ (Aex h)
       intro d v c hc
       split at hc
       case h_2=>exact hc.elim
       rename_i hcond
       simp only [Bool.and_eq_true] at hcond
       rw [A5] at hc
       refine ⟨⟨hcond.1.1.1,hcond.1.1.2,hcond.1.2⟩,ih (by simp) (by simp [hcs]) ?_ hc⟩
       intro c' hc'
       rcases List.mem_append.1 hc' with h1 | h1
       ·exact hin c' h1
       ·simp at h1
        subst h1
        rw [Nat.eq_of_beq_eq_true hcond.2];exact hcond.1.1.2
   | some (s,true),h=>
     simp only [Xj,Ah7,hbk] at h
     simp only [E8]
     split at h
     ·exact h.elim
     rename_i hh
     simp only [Bool.or_eq_false_iff,Bool.not_eq_false',List.isEmpty_iff] at hh
     refine ⟨hh.2,?_⟩
     replace hh:=hh.1
     split at h
     ·rename_i b hb
      simp only [hb]
      refine ⟨fun e=> ?_,fun e=> ?_⟩
      ·subst e
       have:=h.t rfl
       rw [Qm hb hh] at this
       exact run this
      ·have e':b=false:=by simpa using e
       subst e'
       have:=h.f rfl
       rw [Qm hb hh] at this
       exact skip this
     ·rename_i hb
      simp only [hb]
      exact skip h
     ·exact h.elim
   | some (s,false),h=>
     simp only [Xj,Ah7,hbk] at h
     simp only [E8]
     split at h
     ·exact h.elim
     rename_i hh
     simp only [Bool.or_eq_false_iff,Bool.not_eq_false',List.isEmpty_iff] at hh
     refine ⟨hh.2,?_⟩
     replace hh:=hh.1
     split at h
     ·rename_i b hb
      simp only [hb]
      refine ⟨fun e=> ?_,fun e=> ?_⟩
      ·subst e
       have:=h.f rfl
       rw [Qm hb hh] at this
       exact run this
      ·have e':b=true:=by simpa using e
       subst e'
       have:=h.t rfl
       rw [Qm hb hh] at this
       exact skip this
     ·rename_i hb
      simp only [hb]
      exact skip h
     ·exact h.elim
structure SameQ (x y:A) (K:Prop):Prop where
 h:x=y∧K
def Agn (A:List (Nat×AOp)) (K:St→Prop):St→Prop:=
 List.rec (motive:=fun _=>St→Prop) K (fun e _ ih σ=>Zy e.2 σ fun d a=>match U5 a with
  | true=>B0 (Aw d a σ) ih
  | false=>False) A
def Abb (xs:List Nat) (σ:St) (K:Prop) (A:List (Nat×AOp)):Prop:=
 List.rec (motive:=fun _=>Prop) K (fun e _ ih=>match xs.contains e.1 with
  | true=>Zy e.2 σ fun d a=>match Aie a d σ with
    | true=>SameQ (look σ d) a ih
    | false=>False
  | false=>ih) A
def Ts (P:Program) (o:AOp) (ds:List Nat) (σ:St) (K:St→Prop):Prop:=match ds with
 | []=>Akw P o σ K
 | s::q=>(match o with
   | .app d m x y=>yK σ m (Ai σ y) fun ys σ1=>X8 σ1 (Ai σ1 x) fun v σ2=>match v with
     | .sl o m' xs=>(match o with
       | true=>(match Nat.beq m' m with
         | true=>AppQ d xs ys fun l=>B0 (Gz (s::q) (Aw d (.val (.sl true m l)) σ2)) K
         | false=>False)
       | false=>False)
     | _=>False
   | .slt d m x hi=>(match Age (Ai σ hi) with
     | some h=>X8 σ (Ai σ x) fun v σ2=>match v with
       | .sl o m' xs=>(match o with
         | true=>(match Nat.beq m' m with
           | true=>SlcQ xs 0 h fun ys=>B0 (Gz (s::q) (Aw d (.val (.sl true m ys)) σ2)) K
           | false=>False)
         | false=>False)
       | _=>False
     | none=>False)
   | _=>False)
theorem Anr (σ:St):Gz [] σ=σ:=by
 have key : ∀a:A,a.mapR (Adh [])=a:=by
  intro a
  have e:Adh []=fun r _=>some r:=by funext r p;simp [Adh]
  rw [e];exact Ama a
 induction σ with
 | nil=>rfl
 | cons e r ih=>obtain ⟨k,a⟩:=e;simp [Gz,ih,key]
theorem Uy {P:Program} {o:AOp} {ds:List Nat} {σ:St} {K:St→Prop} (h:Ts P o ds σ K):Ly P o (fun σ'=>K (Gz ds σ')) σ:=by
 unfold Ts at h
 split at h
 ·refine Iu (fun σ' hk=> ?_) (Adb h)
  rw [Anr];exact hk
 split at h
 case h_3=>exact h.elim
 ·obtain ⟨ys,σ1,hy,hk⟩:=Am0 h
  obtain ⟨v,σ2,hX,hk⟩:=N0 hk
  split at hk
  case h_2=>exact hk.elim
  split at hk
  case h_2=>exact hk.elim
  split at hk
  case h_2=>exact hk.elim
  rename_i hm
  have hm':=Nat.eq_of_beq_eq_true hm
  obtain ⟨h1,h2,h3⟩:=hk.h
  rw [A5] at h3
  simp only [Ly,Si,Pm,Xm,Bx,Anh,hy,hX,hm',h1,h2]
  simpa using h3
 split at h
 case h_2=>exact h.elim
 rename_i hh hn
 obtain ⟨v,σ2,hX,hk⟩:=N0 h
 split at hk
 case h_2=>exact hk.elim
 split at hk
 case h_2=>exact hk.elim
 split at hk
 case h_2=>exact hk.elim
 rename_i hm
 have hm':=Nat.eq_of_beq_eq_true hm
 obtain ⟨_,h1,h2,h3⟩:=hk.h
 rw [A5] at h3
 simp only [Ly,Si,Pm,Xm,Bx,Aop,hn,hX,hm',h1,h2,and_self,if_true]
 simpa using h3
structure Two (X Y:Prop):Prop where
 h:X∧Y
def Abz (P:Program) (A:List (Nat×AOp)) (K:St→Prop) (pl:LPlan):Bool→St→Prop:=
 LPlan.rec (motive:=fun _=>Bool→St→Prop) (fun b σ=>match b with
  | true=>K σ
  | false=>True) (fun _ x xs ds _ ot ihn iho _ σ=>match ot with
    | .nil=>Abb xs σ (Ts P x ds σ (ihn true)) A
    | .alt .. => Two (Abb xs σ (Ts P x ds σ (ihn true)) A) (iho false σ)) pl
theorem Adv : ∀ {A:List (Nat×AOp)} {K:St→Prop} {σ},Agn A K σ→H8 A K σ:=by
 intro A
 induction A with
 | nil=>intro K σ h;exact h
 | cons e r ih=>
   intro K σ h
   obtain ⟨i,x⟩:=e
   have h':Zy x σ fun d a=>match U5 a with
    | true=>B0 (Aw d a σ) (Agn r K)
    | false=>False:=h
   obtain ⟨d,a,h1,h2⟩:=N1 h'
   simp only [H8,h1]
   split at h2
   ·rename_i hu
    rw [A5] at h2
    exact ⟨hu,ih h2⟩
   ·exact h2.elim
theorem Zn {xs:List Nat} {σ:St} {K:Prop} : ∀ {A:List (Nat×AOp)},Abb xs σ K A→Akr A xs σ∧K:=by
 intro A
 induction A with
 | nil=>intro h;exact ⟨(fun e he=>by cases he),h⟩
 | cons e r ih=>
   intro h
   change (match xs.contains e.1 with
    | true=>Zy e.2 σ fun d a=>match Aie a d σ with
      | true=>SameQ (look σ d) a (Abb xs σ K r)
      | false=>False
    | false=>Abb xs σ K r) at h
   split at h
   ·obtain ⟨d,a,h1,h2⟩:=N1 h
    split at h2
    ·rename_i hu
     obtain ⟨h3,h4⟩:=h2.h
     obtain ⟨h5,h6⟩:=ih h4
     refine ⟨fun f hf hx=> ?_,h6⟩
     rcases List.mem_cons.1 hf with rfl | hf
     ·exact ⟨d,a,h1,h3,hu⟩
     ·exact h5 f hf hx
    ·exact h2.elim
   ·rename_i hx
    obtain ⟨h5,h6⟩:=ih h
    refine ⟨fun f hf hx2=> ?_,h6⟩
    rcases List.mem_cons.1 hf with rfl | hf
    ·rw [hx] at hx2;cases hx2
    ·exact h5 f hf hx2
theorem Agr {P:Program} {A:List (Nat×AOp)} {K:St→Prop} : ∀ {pl:LPlan} {b:Bool} {σ},Abz P A K pl b σ→K5 P A K pl b σ:=by
 intro pl
 induction pl with
 | nil=>intro b σ h hb;subst hb;exact h
 | alt i x xs ds nx ot ih1 ih2=>
   intro b σ h
   cases ot with
   | nil=>
     change Abb xs σ (Ts P x ds σ (Abz P A K nx true)) A at h
     obtain ⟨h1,h2⟩:=Zn h
     exact ⟨⟨h1,Iu (fun _=>ih1) (Uy h2)⟩,fun hb=>by cases hb⟩
   | alt j y ys es ny oy=>
     change Two (Abb xs σ (Ts P x ds σ (Abz P A K nx true)) A) (Abz P A K (.alt j y ys es ny oy) false σ) at h
     obtain ⟨h1,h2⟩:=Zn h.h.1
     exact ⟨⟨h1,Iu (fun _=>ih1) (Uy h2)⟩,ih2 h.h.2⟩
def Ajo:List Nat→(St→Prop)→St→Prop
 | [],K,σ=>K σ
 | e::r,K,σ=>match look σ (e%100000) with
   | .val T=>FrzQ T (e/100000) fun T'=>B0 (Aw (e%100000) (.val T') (Aw (e%100000) .top σ)) (Ajo r K)
   | .ref q []=>(match look σ q with
     | .val T=>(match Nat.blt q 100000 with
       | true=>FrzQ T 0 fun T'=>B0 (Aw (e%100000) (.val T') (Aw (e%100000) .top (Aw q (.val T') (Aw q .top σ)))) (Ajo r K)
       | false=>Ajo r K σ)
     | _=>Ajo r K σ)
   | _=>Ajo r K σ
theorem Ako : ∀ {ss:List Nat} {K:St→Prop} {σ:St},Ajo ss K σ→K (Aqb ss σ):=by
 intro ss
 induction ss with
 | nil=>intro K σ h;exact h
 | cons e r ih=>
   intro K σ h
   simp only [Ajo] at h
   simp only [Aqb]
   split at h
   ·rename_i T hT
    obtain ⟨T',h1,h2⟩:=h.h
    subst h1
    rw [A5] at h2
    simp only [Aes,Aai,hT]
    exact ih h2
   ·rename_i q hT
    split at h
    ·rename_i T hq
     split at h
     ·rename_i hb
      obtain ⟨T',h1,h2⟩:=h.h
      rw [Ao] at h1
      subst h1
      rw [A5] at h2
      simp only [Aes,hT,hq,hb]
      exact ih h2
     ·rename_i hb
      simp only [Aes,hT,hq,hb]
      exact ih h
    ·rename_i hne
     have e2:Aes e σ=σ:=by
      simp only [Aes,hT]
     rw [e2]
     exact ih h
   ·rename_i hne hne2
    have e2:Aes e σ=σ:=by
     unfold Aes
     split
     ·rename_i q hq;exact absurd hq (hne2 q)
     ·unfold Aai
      split
      ·rename_i V hV;exact absurd hV (hne V)
      ·rfl
    rw [e2]
    exact ih h
structure LoopQ (P:Program) (c:ACode) (Q:Ex→St→Prop) (σ:St):Prop where
 h:awp P (.loop c) Q σ
structure CutQ (P:Program) (c:ACode) (Q:Ex→St→Prop) (σ:St):Prop where
 h:awp P (.cut c) Q σ
def vc (P:Program):ACode→(Ex→St→Prop)→St→Prop
 | .skip,Q,σ=>Q .normal σ
 | .reg gs,Q,σ=>Mu P gs (Q .normal) σ
 | .dreg pre post,Q,σ=>Aft P (N2 pre) σ pre [] [] [] (Mu P post (Q .normal))
 | .dregp n0 ds pre post,Q,σ=>Mu P ((pre.take n0).map (·.1)) (fun σ1=>match Wo n0 (Gz ds σ1) with
   | true=>B0 (Gz ds σ1) fun σ2=>B0 (Qt n0) fun acc=>Aft P (N2 pre) σ2 (pre.drop n0) acc [] [] (Mu P post (Q .normal))
   | false=>False) σ
 | .seq a b,Q,σ=>vc P a (Ux (vc P b Q) Q) σ
 | .cond x t e,Q,σ=>match Ai σ x with
   | .val (.bool b)=>Br b (B0 (Aue x true σ) (vc P t Q)) (B0 (Aue x false σ) (vc P e Q))
   | _=>False
 | .block i c,Q,σ=>vc P c (Agz i Q) σ
 | .loop c,Q,σ=>LoopQ P c Q σ
 | .exit i,Q,σ=>Q (.exit i) σ
 | .ret,Q,σ=>Q .ret σ
 | .drop ds c,Q,σ=>B0 (Gz ds σ) (vc P c Q)
 | .cut c,Q,σ=>CutQ P c Q σ
 | .dregl A pl,Q,σ=>Agn A (Abz P A (Q .normal) pl true) σ
 | .frz ss c,Q,σ=>Ajo ss (vc P c Q) σ
theorem Am3 {x:X} {b:Bool} {σ:St} (h:Ai σ x = .val (.bool b)):Aue x b σ=σ:=by
 cases x with
 | c v=>rfl
 | t s=>
   refine Mt ?_
   simp only [Ai] at h
   split at h
   ·rename_i v hv
    split at h
    ·cases h
    ·rw [hv];exact h
   ·exact h
theorem Sg {P:Program} : ∀ {c:ACode} {Q:Ex→St→Prop} {σ:St},vc P c Q σ→awp P c Q σ:=by
 intro c
 induction c with
 | skip=>intro Q σ h;exact h
 | reg gs=>intro Q σ h;exact Nw h
 | dreg pre post=>intro Q σ h;exact N5 (fun _=>Nw) (Zs rfl rfl (by simp) h)
 | dregp n0 ds pre post=>
   intro Q σ h
   refine Lh (fun σ1 h1=> ?_) (Nw h)
   split at h1
   ·rename_i hd
    rw [A5,A5] at h1
    refine ⟨hd,N5 (fun _=>Nw) (Zs (by simp) (by simp) (by simp) h1)⟩
   ·exact h1.elim
 | seq a b ih1 ih2=>
   intro Q σ h
   have h':vc P a (Ux (vc P b Q) Q) σ:=h
   show awp P a (Ux (awp P b Q) Q) σ
   exact Nh (Q:=Ux (vc P b Q) Q) (Km (fun _ hh=>ih2 hh) fun _ _=>id) (ih1 h')
 | cond x t e ih1 ih2=>
   intro Q σ h
   simp only [vc] at h
   simp only [awp]
   split at h
   ·rename_i b hb
    simp only [hb]
    refine ⟨fun e=> ?_,fun e=> ?_⟩
    ·subst e
     have:=h.t rfl
     rw [A5,Am3 hb] at this
     exact ih1 this
    ·subst e
     have:=h.f rfl
     rw [A5,Am3 hb] at this
     exact ih2 this
   ·exact h.elim
 | block i c ih=>intro Q σ h;exact ih h
 | loop c ih=>intro Q σ h;exact h.h
 | exit i=>intro Q σ h;exact h
 | ret=>intro Q σ h;exact h
 | drop ds c ih=>intro Q σ h;simp only [vc] at h;rw [A5] at h;exact ih h
 | cut c ih=>intro Q σ h;exact h.h
 | frz ss c ih=>intro Q σ h;simp only [vc] at h;exact ih (Ako h)
 | dregl A R=>intro Q σ h;exact U3 (fun _=>Agr) (Adv h)
theorem Zf {P:Program} {f N:Nat} {ac:ACode} {rs:List RS} {args:List V} {R:V→List V→Prop} (hf:Bl P f N ac rs=true) (hn:args.length≤N)
  (h:vc P ac (Af6 N rs args R) (entry N 0 args)):Tri P f args R:=Aqq hf hn (Sg h)
def Att {α:Type} (ks:List Nat) (st:α→St) (inv:α→Prop) (μ:α→Nat) (a:α) (σ:St):Prop := ∃b,restrict ks σ=st b∧inv b∧μ b<μ a
theorem LoopQ.by {α:Type} {P:Program} {c:ACode} {Q:Ex→St→Prop} {σ:St} (ks:List Nat) (st:α→St) (inv:α→Prop) (μ:α→Nat) (a0:α) (h0:restrict ks σ=st a0) (hi:inv a0)
  (hr : ∀a,inv a→vc P c (Ux (Att ks st inv μ a) Q) (st a)):LoopQ P c Q σ:=by
 refine ⟨Aqv ks (fun n σ => ∃a,σ=st a∧inv a∧n=μ a) (μ a0) ⟨a0,h0,hi,rfl⟩ ?_⟩
 rintro n σ ⟨a,rfl,ha,rfl⟩
 refine Nh (Km ?_ fun _ _=> .inl) (Sg (hr a ha))
 rintro σ' ⟨b,h1,h2,h3⟩
 exact ⟨μ b,h3,b,h1,h2,rfl⟩
def Ret (P:Program) (f:Nat) (vs:List V) (v:V):Prop:=Tri P f vs (fun r _=>r=v)
theorem Bp {P:Program} {f N:Nat} {ac:ACode} {rs:List RS} {args:List V} {v:V} (hf:Bl P f N ac rs=true) (hn:args.length≤N)
  (h:vc P ac (Af6 N rs args fun r _=>r=v) (entry N 0 args)):Ret P f args v:=Zf hf hn h
abbrev Af (n:Int):V:= .int .i64 n
end Go.Proofs.Ytmcbocbcpijgeaa.Ax
namespace Go.Proofs.Ytmcbocbcpijgeaa.Ax
open Go
noncomputable def ask {α:Type} (p:Prop) (x:Option α):Option α:=@ite _ p (Classical.propDecidable p) x none
def nth {α:Type} [Inhabited α] (xs:List α) (i:Nat):α:=xs.getD i default
theorem C7 {α:Type} {p:Prop} {x:Option α} {v:α}:ask p x=some v↔p∧x=some v:=by
 unfold ask;split<;>simp_all
theorem Ae {α:Type} {p:Prop} {x:Option α} (h:p):ask p x=x:=by unfold ask;rw [if_pos h]
def Aad {σ τ:Type} (body:σ→Option (σ ⊕ τ)):Nat→σ→Option τ
 | 0,_=>none
 | n+1,s=>match body s with
   | none=>none
   | some (.inl s')=>Aad body n s'
   | some (.inr t)=>some t
theorem Amu {σ τ:Type} {body:σ→Option (σ ⊕ τ)} : ∀ {n m:Nat} {s:σ} {t:τ},n≤m→Aad body n s=some t→Aad body m s=some t:=by
 intro n
 induction n with
 | zero=>intro m s t _ h;cases h
 | succ n ih=>
   intro m s t hm h
   match m,hm with
   | m+1,hm=>
     simp only [Aad] at h ⊢
     split at h
     ·cases h
     ·exact ih (by omega) h
     ·exact h
open Classical in
noncomputable def Ay {σ τ:Type} (body:σ→Option (σ ⊕ τ)) (s:σ):Option τ:=if h : ∃t n,Aad body n s=some t then some (Classical.choose h) else none
theorem Ky {σ τ:Type} {body:σ→Option (σ ⊕ τ)} {s:σ} {t:τ}:Ay body s=some t ↔ ∃n,Aad body n s=some t:=by
 unfold Ay
 constructor
 ·intro h
  split at h
  ·rename_i hx
   cases h
   exact Classical.choose_spec hx
  cases h
 rintro ⟨n,hn⟩
 rw [dif_pos ⟨t,n,hn⟩]
 obtain ⟨m,hm⟩:=Classical.choose_spec (⟨t,n,hn⟩ : ∃t n,Aad body n s=some t)
 have h1:=Amu (Nat.le_max_left n m) hn
 have h2:=Amu (Nat.le_max_right n m) hm
 rw [h1] at h2
 exact h2.symm
theorem Aid {σ τ:Type} (body:σ→Option (σ ⊕ τ)) (s:σ):Ay body s=(match body s with
  | none=>none
  | some (.inl s')=>Ay body s'
  | some (.inr t)=>some t):=by
 apply Option.ext
 intro t
 rw [Ky]
 constructor
 ·rintro ⟨n,hn⟩
  cases n with
  | zero=>cases hn
  | succ n=>
    simp only [Aad] at hn
    split at hn
    ·cases hn
    ·exact Ky.2 ⟨n,hn⟩
    ·exact hn
 intro h
 split at h
 ·cases h
 ·rename_i s' e
  obtain ⟨n,hn⟩:=Ky.1 h
  exact ⟨n+1,by simp only [Aad,e];exact hn⟩
 rename_i t' e
 exact ⟨1,by simp only [Aad,e];exact h⟩
def upO {α:Type} (f:Nat→Option α):Prop := ∀n m v,n≤m→f n=some v→f m=some v
open Classical in
noncomputable def Aak {α:Type} (f:Nat→Option α):Option α:=if h : ∃v n,f n=some v then some (Classical.choose h) else none
theorem An6 {α:Type} {f:Nat→Option α} {v:α} (h:Aak f=some v) : ∃n,f n=some v:=by
 unfold Aak at h
 split at h
 ·rename_i hx
  cases h
  exact Classical.choose_spec hx
 cases h
theorem Asa {α:Type} {f:Nat→Option α} (hu:upO f) {v:α} {n:Nat} (h:f n=some v):Aak f=some v:=by
 unfold Aak
 rw [dif_pos ⟨v,n,h⟩]
 obtain ⟨m,hm⟩:=Classical.choose_spec (⟨v,n,h⟩ : ∃v n,f n=some v)
 have h1:=hu _ _ _ (Nat.le_max_left n m) h
 have h2:=hu _ _ _ (Nat.le_max_right n m) hm
 rw [h1] at h2
 exact h2.symm
abbrev A8 (α:Type):List α:=[]
abbrev slr {α:Type} (o:Bool) (m:Nat) (f:α→V) (xs:List α):V:= .sl o m (xs.map f)
class Fz {α:Type} (f:α→V) (g:outParam (α→V)):Prop where
 eq : ∀x,(f x).fz=g x
instance {k:IntKind}:Fz (V.int k) (V.int k):=⟨fun _=>rfl⟩
instance:Fz Af Af:=⟨fun _=>rfl⟩
instance:Fz V.bool V.bool:=⟨fun _=>rfl⟩
instance:Fz V.str V.str:=⟨fun _=>rfl⟩
theorem Ab {α:Type} (f:α→V) {g:α→V} [Fz f g] (xs:List α):fzL (xs.map f)=xs.map g:=by
 induction xs with
 | nil=>rfl
 | cons x r ih=>simp [fzL,Fz.eq,ih]
instance {α:Type} (m:Nat) (f g:α→V) [Fz f g]:Fz (slr true m f) (slr false m g):=⟨fun x=>by simp [slr,V.fz,Ab]⟩
instance {α:Type} (m:Nat) (f:α→V):Fz (slr false m f) (slr false m f):=⟨fun x=>by simp [slr,V.fz]⟩
theorem Ac {α:Type} (m:Nat) (f:α→V) {g:α→V} [Fz f g] (xs:List α):V.fz (.sl true m (xs.map f)) = .sl false m (xs.map g):=by simp [V.fz,Ab]
theorem Ad {α:Type} (f:α→V) {g:α→V} [Fz f g] (x:α):V.fz (f x)=g x:=Fz.eq x
abbrev rA2 {α:Type} (f:α→V) (p:α×α):V:= .agg [f p.1,f p.2]
abbrev rA3 {α:Type} (f:α→V) (p:α×α×α):V:= .agg [f p.1,f p.2.1,f p.2.2]
abbrev rP {α:Type} (o:Bool) (f:α→V) (x:α):V:= .ptr o (f x)
abbrev rO {α:Type} (o:Bool) (f:α→V):Option α→V
 | none=> .nilp
 | some x=> .ptr o (f x)
abbrev rOl {α:Type} (m:Nat) (f:α→V):Option (List α)→V
 | none=> .nl m
 | some xs=> .sl false m (xs.map f)
abbrev rEs {α:Type} (m:Nat) (_:List α):V:= .es m
abbrev rOe {α:Type} (m:Nat) (f:α→V):Option (Option (List α))→V
 | none=> .nl m
 | some none=> .es m
 | some (some xs)=> .sl false m (xs.map f)
abbrev rMp {β:Type} (o:Bool) (f:β→Lf) (l:List (ByteArray×β)):V:= .mp o (l.map fun e=>(e.1,f e.2))
instance {β:Type} (o:Bool) (f:β→Lf):Fz (rMp o f) (rMp false f):=⟨fun x=>by simp [V.fz]⟩
theorem LkQ.one {β:Type} (f:β→Lf) (g:β→V) (l:List (ByteArray×β)) (z0:β) {es:List (ByteArray×Lf)} {s:ByteArray} {z:Lf} {K:V→Prop} (e:es=l.map fun e=>(e.1,f e.2)) (hz:z=f z0) (hg : ∀b,(f b).v=g b)
  (h:K (g ((G4 l s).getD z0))):LkQ es s z false K:=by
 subst e;subst hz
 refine ⟨?_⟩
 unfold Alt
 rw [Y7,Option.getD_map,hg]
 exact h
theorem LkQ.two {β:Type} (f:β→Lf) (g:β→V) (l:List (ByteArray×β)) (z0:β) {es:List (ByteArray×Lf)} {s:ByteArray} {z:Lf} {K:V→Prop} (e:es=l.map fun e=>(e.1,f e.2)) (hz:z=f z0) (hg : ∀b,(f b).v=g b)
  (h:K (.tup [g ((G4 l s).getD z0),.bool (G4 l s).isSome])):LkQ es s z true K:=by
 subst e;subst hz
 refine ⟨?_⟩
 unfold Alt
 rw [Y7,Option.getD_map,hg,Option.isSome_map]
 exact h
theorem MsQ.o {β:Type} (f:β→Lf) (l:List (ByteArray×β)) (b:β) {es:List (ByteArray×Lf)} {s:ByteArray} {x:Lf} {K:List (ByteArray×Lf)→Prop} (e:es=l.map fun e=>(e.1,f e.2)) (hx:x=f b)
  (h:K ((Ob l s b).map fun e=>(e.1,f e.2))):MsQ es s x K:=by
 subst e;subst hx
 exact ⟨by rw [Afq];exact h⟩
theorem BsQ.o (ns:List Int) {xs:List V} {K:ByteArray→Prop} (e:xs=ns.map (V.int .u8)) (h:K (Ac8 ns)):BsQ xs K:=by
 subst e
 exact ⟨ns,Akz ns,h⟩
instance {α:Type} (f g:α→V) [Fz f g]:Fz (rP true f) (rP false g):=⟨fun x=>by simp [V.fz,Fz.eq]⟩
instance {α:Type} (m:Nat) (f:α→V):Fz (rOl m f) (rOl m f):=⟨fun x=>by cases x<;>simp [rOl,V.fz]⟩
instance {α:Type} (f g:α→V) [Fz f g]:Fz (rO true f) (rO false g):=⟨fun x=>by cases x<;>simp [rO,V.fz,Fz.eq]⟩
instance {α:Type} (f g:α→V) [Fz f g]:Fz (rA2 f) (rA2 g):=⟨fun x=>by simp [V.fz,fzL,Fz.eq]⟩
instance {α:Type} (f g:α→V) [Fz f g]:Fz (rA3 f) (rA3 g):=⟨fun x=>by simp [V.fz,fzL,Fz.eq]⟩
def One {α:Type} (f:α→V):Prop := ∀x,(f x).cells=[f x]∧(f x).isAgg=false
def Qd {α:Type} (m:Nat) (f:α→V):Prop := ∀x,(f x).cells.length=m∧C4 (f x).cells=true
section
variable {α ρ:Type} {v:ρ} {x y:Option ρ} {X Y:Prop}
theorem Br.od {p:Prop} [Decidable p] (h:(if p then x else y)=some v) (h1:p→x=some v→X) (h2:¬p→y=some v→Y):Br (decide p) X Y:=by
 by_cases hp:p
 ·rw [if_pos hp] at h;exact ⟨fun _=>h1 hp h,fun e=>absurd hp (of_decide_eq_false e)⟩
 rw [if_neg hp] at h;exact ⟨fun e=>absurd (of_decide_eq_true e) hp,fun _=>h2 hp h⟩
theorem Br.oe {a b:Int} (h:(if a=b then x else y)=some v) (h1:a=b→x=some v→X) (h2:¬a=b→y=some v→Y):Br (a==b) X Y:=by
 have:(a==b)=decide (a=b):=by rw [Bool.eq_iff_iff];simp
 rw [this];exact Br.od h h1 h2
theorem Br.on {a b:Int} (h:(if a≠b then x else y)=some v) (h1:a≠b→x=some v→X) (h2:¬a≠b→y=some v→Y):Br (a != b) X Y:=by
 have:(a != b)=decide (a≠b):=by rw [Bool.eq_iff_iff];simp
 rw [this];exact Br.od h h1 h2
theorem Br.ob {b:Bool} (h:(if b=true then x else y)=some v) (h1:b=true→x=some v→X) (h2:¬b=true→y=some v→Y):Br b X Y:=by
 cases b
 ·exact ⟨fun e=>Bool.noConfusion e,fun _=>h2 (by simp) (by simpa using h)⟩
 exact ⟨fun _=>h1 rfl (by simpa using h),fun e=>Bool.noConfusion e⟩
theorem Br.flip {b:Bool} (h:Br b Y X):Br (!b) X Y:=by
 cases b
 ·exact ⟨fun _=>h.f rfl,fun e=>Bool.noConfusion e⟩
 exact ⟨fun e=>Bool.noConfusion e,fun _=>h.t rfl⟩
theorem Ask.o {p:Prop} (h:ask p x=some v) (hk:p→x=some v→X):Ask p X:=by
 obtain ⟨h1,h2⟩:=C7.1 h
 exact ⟨h1,hk h1 h2⟩
theorem Idx.o {j:Int} {lo n:Nat} {K:Int→Prop} (h:(if j=lo then x else y)=some v) (h1:x=some v→K lo) (h2:y=some v→Idx j (lo+1) n K):Idx j lo n K:=by
 refine ⟨fun a b=> ?_⟩
 by_cases hj:j=lo
 ·rw [if_pos hj] at h;rw [hj];exact h1 h
 rw [if_neg hj] at h;exact (h2 h).h (by omega) b
theorem Idx.lit {j:Int} {lo n:Nat} {K:Int→Prop} (h:K j):Idx j lo n K:=⟨fun _ _=>h⟩
theorem Len.nil {K:Nat→Prop} (h:K 0):Len [] K:=⟨h⟩
theorem Len.cons {u:V} {us:List V} {K:Nat→Prop} (h:Len us fun n=>K (n+1)):Len (u::us) K:=⟨h.h⟩
variable {f:α→V}
theorem Arm [Inhabited α] (f:α→V) {xs:List α} {j:Nat} (hj:j<xs.length):(xs.map f).getD j .dead=f (nth xs j):=by
 simp [List.getD_eq_getElem?_getD,nth,hj]
theorem Elem.o [Inhabited α] {xs:List α} {j:Nat} {K:V→Prop} (hj:j<xs.length) (hk:K (f (nth xs j))):Elem (xs.map f) j K:=⟨by rw [Arm f hj];exact hk⟩
theorem Wv (hf:One f) (xs:List α):Bo (xs.map f)=xs.map f:=by
 induction xs with
 | nil=>rfl
 | cons x r ih=>simp only [List.map_cons,Bo,(hf x).1,ih];rfl
theorem Apw [Inhabited α] (f:α→V) {xs:List α} {c:Nat} (hc:c<xs.length):(xs.map f).drop c=f (nth xs c)::(xs.map f).drop (c+1):=by
 rw [List.drop_eq_getElem_cons (by simpa using hc)]
 simp [nth,List.getD_eq_getElem?_getD,hc]
theorem Cells.one [Inhabited α] (hf:One f) {xs:List α} {c:Nat} {K:List V→Prop} (hc:c<xs.length) (hk:K [f (nth xs c)]):Cells (Bo (xs.map f)) c 1 K:=by
 refine ⟨_,?_,?_,hk⟩
 ·rw [Wv hf,List.length_map];exact hc
 rw [Wv hf,Apw f hc];rfl
theorem Afl [Inhabited α] {m:Nat} (hf:Qd m f) : ∀ {xs:List α} {i:Nat},i<xs.length → ∃l r,Bo (xs.map f)=l++((f (nth xs i)).cells++r)∧l.length=i*m:=by
 intro xs
 induction xs with
 | nil=>intro i h;simp at h
 | cons x t ih=>
   intro i h
   cases i with
   | zero=>exact ⟨[],Bo (t.map f),rfl,by simp⟩
   | succ i=>
     obtain ⟨l,r,e,hl⟩:=ih (i:=i) (by simpa using h)
     refine ⟨(f x).cells++l,r,by simp only [List.map_cons,Bo,e,List.append_assoc];rfl,?_⟩
     rw [List.length_append,(hf x).1,hl,Nat.succ_mul];omega
theorem Cells.wide [Inhabited α] {m:Nat} (hf:Qd m f) {xs:List α} {i off n:Nat} {K:List V→Prop} (hi:i<xs.length) (hn:off+n≤m) (hk:K (((f (nth xs i)).cells.drop off).take n)) :
  Cells (Bo (xs.map f)) (Ba i m+off) n K:=by
 obtain ⟨l,r,e,hl⟩:=Afl hf hi
 have hw:=(hf (nth xs i)).1
 refine ⟨_,?_,?_,hk⟩
 ·rw [e,Oe,List.length_append,List.length_append,hl,hw];omega
 rw [e,Oe,←hl,←List.drop_drop,List.drop_left,List.drop_append_of_le_length (by omega),List.take_append_of_le_length (by simp;omega)]
theorem Cells.wide0 [Inhabited α] {m:Nat} (hf:Qd m f) {xs:List α} {i n:Nat} {K:List V→Prop} (hi:i<xs.length) (hn:n≤m) (hk:K ((f (nth xs i)).cells.take n)) :
  Cells (Bo (xs.map f)) (Ba i m) n K:=Cells.wide (off:=0) hf hi (by omega) hk
theorem Cells.lit {xs us:List V} {c n:Nat} {K:List V→Prop} (h:Nat.ble (c+n) xs.length=true) (e:(xs.drop c).take n=us) (hk:K us):Cells xs c n K:=⟨us,Nat.le_of_ble_eq_true h,e,hk⟩
theorem Kid.one [Inhabited α] (hf:One f) {m:Nat} {xs:List α} {c:Nat} {K:V→Prop} (hc:c<xs.length) (hk:K (f (nth xs c))):Kid (.sl true m (xs.map f)) c K:=
 ⟨_,rfl,by simp only [V.kids,Wv hf];simp [nth,List.getD_eq_getElem?_getD,hc],hk⟩
theorem Kid.wide [Inhabited α] {m:Nat} (hf:Qd m f) {xs:List α} {i off:Nat} {u:V} {K:V→Prop} (hi:i<xs.length) (hu:(f (nth xs i)).cells[off]? = some u) (hk:K u):Kid (.sl true m (xs.map f)) (Ba i m+off) K:=by
 obtain ⟨l,r,e,hl⟩:=Afl hf hi
 refine ⟨u,rfl,?_,hk⟩
 have ho:off<(f (nth xs i)).cells.length:=(List.getElem?_eq_some_iff.1 hu).1
 simp only [V.kids,e]
 rw [Oe,List.getElem?_append_right (by omega),hl,Nat.add_sub_cancel_left,List.getElem?_append_left ho,hu]
theorem Kid.lit {T k:V} {c:Nat} {K:V→Prop} (h1:T.stepOk=true) (h2:T.kids[c]? = some k) (hk:K k):Kid T c K:=⟨k,h1,h2,hk⟩
theorem Anu (hf:One f) : ∀ {xs:List α} {c:Nat} (w:α),c<xs.length→Lm (xs.map f) c [f w]=some ((xs.set c w).map f):=by
 intro xs
 induction xs with
 | nil=>intro c w h;simp at h
 | cons x r ih=>
   intro c w h
   have hlen:(f x).cells.length=1:=by rw [(hf x).1];rfl
   simp only [List.map_cons,Lm,hlen]
   cases c with
   | zero=>
     have:(f x).setCells 0 [f w]=some (f w):=by
      have hx:=(hf x).2
      have hv:=(hf w).2
      unfold V.setCells
      split
      ·simp_all [V.isAgg]
      ·simp [Aby,hv]
     simp [this]
   | succ c=>
     have:=ih (c:=c) w (by simpa using h)
     simp [this]
theorem Akq (hf:One f) : ∀ {xs:List α} {c:Nat} (w:α),c<xs.length→Lm ((xs.map f).set c .dead) c [f w]=some ((xs.set c w).map f):=by
 intro xs
 induction xs with
 | nil=>intro c w h;simp at h
 | cons x r ih=>
   intro c w h
   have hlen:(f x).cells.length=1:=by rw [(hf x).1];rfl
   cases c with
   | zero=>
     simp only [List.map_cons,List.set_cons_zero,Lm]
     simp [V.cells,V.setCells,Aby,(hf w).2]
   | succ c=>
     have:=ih (c:=c) w (by simpa using h)
     simp [Lm,hlen,this]
theorem SetKids.fill (hf:One f) {o:Bool} {m:Nat} {xs:List α} {c:Nat} {us:List V} {K:V→Prop} (w:α) (e:us=[f w]) (hc:c<xs.length) (hk:K (.sl o m ((xs.set c w).map f))):SetKids (.sl o m (Asp f xs c)) c us K:=by
 subst e
 exact ⟨_,by simp only [V.setKids,Asp,Akq hf w hc,Option.map_some],hk⟩
theorem SetKids.one (hf:One f) {o:Bool} {m:Nat} {xs:List α} {c:Nat} {us:List V} {K:V→Prop} (w:α) (e:us=[f w]) (hc:c<xs.length) (hk:K (.sl o m ((xs.set c w).map f))):SetKids (.sl o m (xs.map f)) c us K:=by
 subst e
 exact ⟨_,by simp only [V.setKids,Anu hf w hc,Option.map_some],hk⟩
theorem Alq [Inhabited α] {m:Nat} (hf:Qd m f) : ∀ {xs:List α} {i off:Nat} {us:List V} (w:α),i<xs.length→(f (nth xs i)).setCells off us=some (f w)→off<m→Lm (xs.map f) (i*m+off) us=some ((xs.set i w).map f):=by
 intro xs
 induction xs with
 | nil=>intro i off us w h;simp at h
 | cons x r ih=>
   intro i off us w h hs ho
   simp only [List.map_cons,Lm,(hf x).1]
   cases i with
   | zero=>
     have hs':(f x).setCells off us=some (f w):=hs
     simp [ho,hs']
   | succ i=>
     have:=ih (i:=i) (off:=off) (us:=us) w (by simpa using h) hs ho
     rw [if_neg (by rw [Nat.succ_mul];omega),show (i+1)*m+off-m=i*m+off by rw [Nat.succ_mul];omega,this]
     simp
theorem SetKids.wide [Inhabited α] {m:Nat} (hf:Qd m f) {o:Bool} {xs:List α} {i off:Nat} {us:List V} {K:V→Prop} (w:α) (hi:i<xs.length) (hs:(f (nth xs i)).setCells off us=some (f w)) (ho:off<m) (hk:K (.sl o m ((xs.set i w).map f))) :
  SetKids (.sl o m (xs.map f)) (Ba i m+off) us K:=
 ⟨_,by simp only [V.setKids,Oe,Alq hf w hi hs ho,Option.map_some],hk⟩
theorem SetKids.wide0 [Inhabited α] {m:Nat} (hf:Qd m f) {o:Bool} {xs:List α} {i:Nat} {us:List V} {K:V→Prop} (w:α) (hi:i<xs.length) (hs:(f (nth xs i)).setCells 0 us=some (f w)) (ho:0<m) (hk:K (.sl o m ((xs.set i w).map f))) :
  SetKids (.sl o m (xs.map f)) (Ba i m) us K:=SetKids.wide (off:=0) hf w hi hs ho hk
theorem Ai3 [Inhabited α] {m:Nat} (hf:Qd m f) : ∀ {xs:List α} {i off:Nat} {us:List V} {v:V},i<xs.length→(f (nth xs i)).setCells off us=some v→off<m→Lm (xs.map f) (i*m+off) us=some (holeW f xs i v):=by
 intro xs
 induction xs with
 | nil=>intro i off us v h;simp at h
 | cons x r ih=>
   intro i off us v h hs ho
   simp only [List.map_cons,Lm,(hf x).1,holeW]
   cases i with
   | zero=>
     have hs':(f x).setCells off us=some v:=hs
     simp [ho,hs']
   | succ i=>
     have:=ih (i:=i) (off:=off) (us:=us) (v:=v) (by simpa using h) hs ho
     rw [if_neg (by rw [Nat.succ_mul];omega),show (i+1)*m+off-m=i*m+off by rw [Nat.succ_mul];omega,this]
     simp [holeW]
theorem Aj0 {m:Nat} (hf:Qd m f) : ∀ {xs:List α} {i off:Nat} {us:List V} {v:V} (w:α),i<xs.length→v.cells.length=m→v.setCells off us=some (f w)→off<m→Lm (holeW f xs i v) (i*m+off) us=some ((xs.set i w).map f):=by
 intro xs
 induction xs with
 | nil=>intro i off us v w h;simp at h
 | cons x r ih=>
   intro i off us v w h hv hs ho
   cases i with
   | zero=>simp [holeW,Lm,hv,ho,hs]
   | succ i=>
     have:=ih (i:=i) (off:=off) (us:=us) (v:=v) w (by simpa using h) hv hs ho
     simp only [holeW,List.map_cons,List.set_cons_succ,Lm,(hf x).1] at this ⊢
     rw [if_neg (by rw [Nat.succ_mul];omega),show (i+1)*m+off-m=i*m+off by rw [Nat.succ_mul];omega,this]
     simp
theorem Len.holeW {xs:List α} {i:Nat} {v:V} {K:Nat→Prop} (h:K xs.length):Len (holeW f xs i v) K:=⟨by simp only [Ax.holeW,List.length_set,List.length_map];exact h⟩
theorem SetKids.mkholeW [Inhabited α] {m:Nat} (hf:Qd m f) {o:Bool} {xs:List α} {i off:Nat} {us:List V} {K:V→Prop} (v:V) (hi:i<xs.length) (hs:(f (nth xs i)).setCells off us=some v) (ho:off<m) (hk:K (.sl o m (holeW f xs i v))) :
  SetKids (.sl o m (xs.map f)) (Ba i m+off) us K:=
 ⟨_,by simp only [V.setKids,Oe,Ai3 hf hi hs ho,Option.map_some],hk⟩
theorem SetKids.fillW {m:Nat} (hf:Qd m f) {o:Bool} {xs:List α} {i off:Nat} {us:List V} {v:V} {K:V→Prop} (w:α) (hi:i<xs.length) (hv:v.cells.length=m) (hs:v.setCells off us=some (f w)) (ho:off<m) (hk:K (.sl o m ((xs.set i w).map f))) :
  SetKids (.sl o m (holeW f xs i v)) (Ba i m+off) us K:=
 ⟨_,by simp only [V.setKids,Oe,Aj0 hf w hi hv hs ho,Option.map_some],hk⟩
theorem SetKids.lit {T T':V} {c:Nat} {us:List V} {K:V→Prop} (h:T.setKids c us=some T') (hk:K T'):SetKids T c us K:=⟨T',h,hk⟩
theorem MkQ.o {d n:Nat} {z:V} {K:List V→Prop} (f:α→V) (w:α) (e:z=f w) (hk:K ((List.replicate n w).map f)):MkQ d n z K:=⟨by rw [e,←List.map_replicate];exact hk⟩
theorem Alb {m:Nat} (hf:Qd m f) (ws:List α):Ls m (ws.map f)=true:=by
 induction ws with
 | nil=>rfl
 | cons w r ih=>simp [Ls,(hf w).1,(hf w).2,ih]
theorem BslQ.o {d m:Nat} {us:List V} {K:List V→Prop} (f:α→V) (ws:List α) (hf:Qd m f) (e:us=ws.map f) (hk:K (ws.map f)):BslQ d m us K:=by
 subst e;exact ⟨Alb hf ws,hk⟩
theorem BslQ.lit {d m:Nat} {us:List V} {K:List V→Prop} (e:Ls m us=true) (hk:K us):BslQ d m us K:=⟨e,hk⟩
theorem Ag0 {m:Nat} (hf:Qd m f) (ws:List α):C4 (Bo (ws.map f))=true:=by
 induction ws with
 | nil=>rfl
 | cons w r ih=>
   have:=(hf w).2
   simp only [C4,List.map_cons,Bo,List.all_append,Bool.and_eq_true] at this ih ⊢
   exact ⟨this,ih⟩
theorem AppQ.o {m d:Nat} {us vs:List V} {K:List V→Prop} (f:α→V) (hf:Qd m f) (xs ys:List α) (ex:us=xs.map f) (ey:vs=ys.map f) (h:ask (xs.length+ys.length≤LIM) x=some v) (hk:x=some v→K ((xs++ys).map f)):AppQ d us vs K:=by
 subst ex;subst ey
 obtain ⟨h1,h2⟩:=C7.1 h
 exact ⟨Ag0 hf ys,by simpa using h1,by rw [←List.map_append];exact hk h2⟩
theorem Z2 (hf : ∀x,Bf (f x).cells=false) (ws:List α):Bf (Bo (ws.map f))=false:=by
 induction ws with
 | nil=>rfl
 | cons w r ih=>simp only [List.map_cons,Bo,Fl,hf w,ih];rfl
theorem SlcQ.o {l h:Int} {xs:List α} {K:List V→Prop} (f:α→V) (hh:ask (0≤l∧l≤h∧h≤(xs.length:Int)) x=some v) (hk:x=some v→K (((xs.drop l.toNat).take (h.toNat-l.toNat)).map f)):SlcQ (xs.map f) l h K:=by
 obtain ⟨⟨h1,h2,h3⟩,h4⟩:=C7.1 hh
 exact ⟨h1,h2,by simpa using h3,by rw [←List.map_drop,←List.map_take];exact hk h4⟩
theorem NoOwn.o (hf : ∀x,Bf (f x).cells=false) {ws:List α} (h:X):NoOwn (ws.map f) X Y:=⟨.inl ⟨Z2 hf ws,h⟩⟩
theorem NoOwn.lit {us:List V} (e:Bf (Bo us)=false) (h:X):NoOwn us X Y:=⟨.inl ⟨e,h⟩⟩
theorem NoOwn.own {us:List V} (e:Bf (Bo us)=true) (h:Y):NoOwn us X Y:=⟨.inr ⟨e,h⟩⟩
end
def Nj (P:Program) (f:Nat) (vs:List V) (v:V) (k:Nat) (u:V):Prop:=Tri P f vs (fun r o=>r=v∧o[k]? = some u)
theorem Tw {P:Program} {f N:Nat} {ac:ACode} {rs:List RS} {args:List V} {v u:V} {k:Nat} (hf:Bl P f N ac rs=true) (hn:args.length≤N)
  (h:vc P ac (Af6 N rs args fun r o=>r=v∧o[k]? = some u) (entry N 0 args)):Nj P f args v k u:=Zf hf hn h
theorem RdL.drop {w:World} {O:Nat→Prop} : ∀(k:Nat) {os:List V} {us:List Value} {fp:List Nat},RdL w O os us fp → ∃fp',RdL w O (os.set k .dead) us fp'∧List.Sublist fp' fp
 | _,_,_,_,.nil=>⟨[],.nil,.slnil⟩
 | 0,_,_,_,.leaf _ t=>⟨_,.leaf (.dead _) t,.refl _⟩
 | 0,_,_,_,.grp _ _ t=>⟨_,.leaf (.dead _) t,List.sublist_append_right _ _⟩
 | 0,_,_,_,.fblk _ _ _ _ t=>⟨_,.leaf (.dead _) t,.refl _⟩
 | 0,_,_,_,.oblk _ _ _ _ _ t=>⟨_,.leaf (.dead _) t,(List.sublist_append_right _ _).cons _⟩
 | 0,_,_,_,.mpf _ _ _ t=>⟨_,.leaf (.dead _) t,.refl _⟩
 | 0,_,_,_,.mpo _ _ _ t=>⟨_,.leaf (.dead _) t,(List.Sublist.refl _).cons _⟩
 | k+1,_,_,_,.leaf h t=>let ⟨_,a,b⟩:=RdL.drop k t;⟨_,.leaf h a,b⟩
 | k+1,_,_,_,.grp h s t=>let ⟨_,a,b⟩:=RdL.drop k t;⟨_,.grp h s a,(List.Sublist.refl _).append b⟩
 | k+1,_,_,_,.fblk h hc hO s t=>let ⟨_,a,b⟩:=RdL.drop k t;⟨_,.fblk h hc hO s a,b⟩
 | k+1,_,_,_,.oblk h hb hO hk s t=>let ⟨_,a,b⟩:=RdL.drop k t;⟨_,.oblk h hb hO hk s a,((List.Sublist.refl _).append b).cons_cons _⟩
 | k+1,_,_,_,.mpf hb he hO t=>let ⟨_,a,b⟩:=RdL.drop k t;⟨_,.mpf hb he hO a,b⟩
 | k+1,_,_,_,.mpo hb he hO t=>let ⟨_,a,b⟩:=RdL.drop k t;⟨_,.mpo hb he hO a,b.cons_cons _⟩
theorem Tri.drop {P:Program} {f:Nat} {args:List V} {k:Nat} {R:V→List V→Prop} (h:Tri P f args fun r o=>R r (o.set k .dead)):Tri P f args R:=by
 intro w O vals fp h1 h2
 obtain ⟨h3,h4⟩:=h w O vals fp h1 h2
 refine ⟨h3,h4.mono ?_⟩
 rintro e w' ⟨res,outs,rv,O',fpr,fpo,hR,he,r1,ro,hnd,hm⟩
 obtain ⟨fp',a,b⟩:=RdL.drop k ro
 have hs:List.Sublist (fpr++fp') (fpr++fpo):=(List.Sublist.refl _).append b
 exact ⟨res,_,rv,O',fpr,fp',hR,he,r1,a,hs.nodup hnd,⟨hm.os,hm.tape,hm.output,hm.size,hm.same,fun b hb=>hm.new b (hs.subset hb)⟩⟩
theorem Arz {P:Program} {f N:Nat} {ac:ACode} {rs:List RS} {args:List V} {v:V} {k:Nat} (hf:Bl P f N ac rs=true) (hn:args.length≤N)
  (h:vc P ac (Af6 N rs args fun r o=>r=v∧(o.set k .dead)[k]? = some .dead) (entry N 0 args)):Nj P f args v k .dead:=Tri.drop (Zf hf hn h)
theorem RdL.deads {w:World} {O:Nat→Prop} : ∀(us:List Value),RdL w O (List.replicate us.length .dead) us []
 | []=> .nil
 | _::us=> .leaf (.dead _) (RdL.deads us)
theorem Tri.freeze {P:Program} {f:Nat} {args:List V} {R:V→List V→Prop} (h:Tri P f args fun r o=>R r.fz o):Tri P f args R:=by
 intro w O vals fp h1 h2
 obtain ⟨h3,h4⟩:=h w O vals fp h1 h2
 refine ⟨h3,h4.mono ?_⟩
 rintro e w' ⟨res,outs,rv,O',fpr,fpo,hR,he,r1,ro,hnd,hm⟩
 have hd:=List.nodup_append.1 hnd
 have hnew : ∀b,b∈fpr→b∈fp∨w.heap.size≤b:=fun b hb=>hm.new b (by simp [hb])
 refine ⟨res.fz,outs,rv,fun b=>O' b∧b∉fpr,[],fpo,hR,he,?_,?_,by simpa using hd.2.1,⟨hm.os,hm.tape,hm.output,hm.size,fun b hb hS=> ?_,fun b hb=>hm.new b (by simpa using Or.inr (by simpa using hb))⟩⟩
 ·have:=r1.fz (O2:=fun b=>O' b∧b∉fpr) (fun b hb hh=>hh.2 hb) (fun b hb _ hh=>hb hh.1)
  simpa [fzL] using this
 ·exact ro.frame (fun b hb=>⟨rfl,(ro.fpO b hb).1,fun hh=>hd.2.2 b hh b hb rfl⟩) (fun b hb _=>⟨rfl,fun hh=>hb hh.1⟩)
 have:=hm.same b hb hS
 refine ⟨this.1,⟨fun hh=>this.2.1 hh.1,fun hh=>⟨this.2.2 hh,fun hf=> ?_⟩⟩⟩
 rcases hnew b hf with h5 | h5
 ·exact hS h5
 omega
def V.ues:V→V
 | .es m=> .sl false m []
 | x=>x
theorem RdL.ues {w O xs vs fp} (h:RdL w O xs vs fp):RdL w O (xs.map V.ues) vs fp:=by
 induction h with
 | nil=>exact .nil
 | leaf h _ ih=>
   refine .leaf ?_ ih
   cases h<;>simp only [V.ues]<;>constructor
 | grp h s _ _ ih=>
   cases h with
   | agg=>exact .grp (.agg _ _) s ih
   | tup=>exact .grp (.tup _ _) s ih
   | clo=>exact .grp (.clo _ _ _) s ih
   | fclo f cs ch vs e=>exact .grp (.fclo _ _ _ _ e) s ih
 | fblk h hc hO s _ _ ih=>
   cases h with
   | sl o m xs b off cap hm hcap=>exact .fblk (.sl _ _ _ _ _ _ hm hcap) hc hO s ih
   | ptr o x b off=>exact .fblk (.ptr _ _ _ _) hc hO s ih
 | oblk h hb hO hk s _ _ ih=>
   cases h with
   | sl o m xs b off cap hm hcap=>exact .oblk (.sl _ _ _ _ _ _ hm hcap) hb hO hk s ih
   | ptr o x b off=>exact .oblk (.ptr _ _ _ _) hb hO hk s ih
 | mpf hb he hO _ ih=>exact .mpf hb he hO ih
 | mpo hb he hO _ ih=>exact .mpo hb he hO ih
theorem Ret.es {P:Program} {f:Nat} {vs us:List V} {v:V} (e:vs.map V.ues=us) (h:Ret P f us v):Ret P f vs v:=by
 subst e
 intro w O vals fp h1 h2
 obtain ⟨h3,h4⟩:=h w O vals fp h1.ues h2
 refine ⟨h3,h4.mono ?_⟩
 rintro e w' ⟨res,outs,rv,O',fpr,fpo,hR,he,r1,ro,hnd,hm⟩
 have hd:=List.nodup_append.1 hnd
 exact ⟨res,List.replicate vals.length .dead,rv,O',fpr,[],hR,he,r1,RdL.deads vals,by simpa using hd.1,hm.shrink fun b hb=>by simpa using Or.inl (by simpa using hb)⟩
def V.uet:V→V
 | .tup cs=> .tup (cs.map V.ues)
 | .es m=> .sl false m []
 | x=>x
theorem RdL.uet {w O x v fp} (h:RdL w O [x] [v] fp):RdL w O [x.uet] [v] fp:=by
 cases x with
 | tup cs=>
   cases h with
   | leaf h _=>cases h
   | fblk h _ _ _ _=>cases h
   | oblk h _ _ _ _ _=>cases h
   | grp h s t=>
     cases h with
     | tup=>exact .grp (.tup _ _) s.ues t
 | es m=>exact h.ues
 | _=>exact h
theorem Tri.uet {P:Program} {f:Nat} {args:List V} {R:V→List V→Prop} (h:Tri P f args fun r o=>R r.uet o):Tri P f args R:=by
 intro w O vals fp h1 h2
 obtain ⟨h3,h4⟩:=h w O vals fp h1 h2
 refine ⟨h3,h4.mono ?_⟩
 rintro e w' ⟨res,outs,rv,O',fpr,fpo,hR,he,r1,rest⟩
 exact ⟨res.uet,outs,rv,O',fpr,fpo,hR,he,r1.uet,rest⟩
theorem Apq {P:Program} {f N:Nat} {ac:ACode} {rs:List RS} {args:List V} {v:V} (hf:Bl P f N ac rs=true) (hn:args.length≤N)
  (h:vc P ac (Af6 N rs args fun r _=>r.fz=v) (entry N 0 args)):Ret P f args v:=Tri.freeze (R:=fun r _=>r=v) (Zf hf hn h)
theorem Aom {P:Program} {f N:Nat} {ac:ACode} {rs:List RS} {args:List V} {v:V} (hf:Bl P f N ac rs=true) (hn:args.length≤N)
  (h:vc P ac (Af6 N rs args fun r _=>r.fz.uet=v) (entry N 0 args)):Ret P f args v:=Tri.uet (R:=fun r _=>r=v) (Tri.freeze (R:=fun r _=>r.uet=v) (Zf hf hn h))
theorem Afh {P:Program} {f N:Nat} {ac:ACode} {rs:List RS} {args:List V} {v u:V} {k:Nat} (hf:Bl P f N ac rs=true) (hn:args.length≤N)
  (h:vc P ac (Af6 N rs args fun r o=>r.fz=v∧o[k]? = some u) (entry N 0 args)):Nj P f args v k u:=Tri.freeze (R:=fun r o=>r=v∧o[k]? = some u) (Zf hf hn h)
theorem Ret.frz {P:Program} {f:Nat} {vs:List V} {v v':V} (h:Ret P f vs v) (e:v.fz=v'):Ret P f vs v':=
 Tri.freeze (R:=fun r _=>r=v') (Tri.mono h fun r _ hr=>by rw [show r=v from hr];exact e)
theorem Nj.frz {P:Program} {f k:Nat} {vs:List V} {v v' u:V} (h:Nj P f vs v k u) (e:v.fz=v'):Nj P f vs v' k u:=
 Tri.freeze (R:=fun r o=>r=v'∧o[k]? = some u) (Tri.mono h fun r _ hr=>⟨by rw [show r=v from hr.1];exact e,hr.2⟩)
class NoFz {α:Type} (f:α→V):Prop where
 eq : ∀x,(f x).noFz=true
instance {k:IntKind}:NoFz (V.int k):=⟨fun _=>rfl⟩
instance:NoFz Af:=⟨fun _=>rfl⟩
instance:NoFz V.bool:=⟨fun _=>rfl⟩
instance:NoFz V.str:=⟨fun _=>rfl⟩
theorem D1 {α:Type} {f:α→V} [NoFz f] (xs:List α):Cq (xs.map f)=true:=by
 induction xs with
 | nil=>rfl
 | cons x r ih=>simp [Cq,NoFz.eq,ih]
instance {α:Type} (m:Nat) (f:α→V) [NoFz f]:NoFz (slr true m f):=⟨fun x=>by simp [V.noFz,D1]⟩
instance {β:Type} (f:β→Lf):NoFz (rMp true f):=⟨fun x=>by simp [V.noFz]⟩
instance {α:Type} (f:α→V) [NoFz f]:NoFz (rP true f):=⟨fun x=>by simp [V.noFz,NoFz.eq]⟩
instance {α:Type} (f:α→V) [NoFz f]:NoFz (rO true f):=⟨fun x=>by cases x<;>simp [V.noFz,NoFz.eq]⟩
instance {α:Type} (f:α→V) [NoFz f]:NoFz (rA2 f):=⟨fun x=>by simp [V.noFz,Cq,NoFz.eq]⟩
instance {α:Type} (f:α→V) [NoFz f]:NoFz (rA3 f):=⟨fun x=>by simp [V.noFz,Cq,NoFz.eq]⟩
section
variable {P:Program} {K:St→Prop} {σ:St} {β ρ:Type} {v:ρ} {oo:Option β} {k:β→Option ρ}
theorem CallQ.o (rep:β→V) {vs vs':List V} {f d:Nat} (e:vs=vs') (h:oo.bind k=some v) (hr : ∀r,oo=some r→Ret P f vs' (rep r)) (hk : ∀r,k r=some v→B0 (Aw d (.val (rep r)) σ) K):CallQ P f d vs [] [] K σ:=by
 subst e
 obtain ⟨r,h1,h2⟩:=Option.bind_eq_some_iff.1 h
 have h3:=hk r h2
 rw [A5] at h3
 refine ⟨rfl,Tri.mono (hr r h1) ?_⟩
 rintro r o rfl
 exact ⟨rfl,h3⟩
theorem CallQ.rd (rep:β→V) {vs vs':List V} {rs:List Nat} {f d:Nat} (e:vs=vs') (hn : ∀r,(rep r).noFz=true) (h:oo.bind k=some v) (hr : ∀r,oo=some r→Ret P f vs' (rep r)) (hk : ∀r,k r=some v→B0 (Aw d (.val (rep r)) σ) K):CallQ P f d vs [] rs K σ:=by
 subst e
 obtain ⟨r,h1,h2⟩:=Option.bind_eq_some_iff.1 h
 have h3:=hk r h2
 rw [A5] at h3
 refine ⟨rfl,Tri.mono (hr r h1) ?_⟩
 rintro r' o rfl
 exact ⟨by simp [D7,hn r],h3⟩
theorem CloQ.o (rep:β→V) {vs vs' cs:List V} {rs:List Nat} {f d:Nat} (e:vs++fzL cs=vs') (hn : ∀r,D7 rs (rep r)=true) (h:oo.bind k=some v) (hr : ∀r,oo=some r→Ret P f vs' (rep r)) (hk : ∀r,k r=some v→B0 (Aw d (.val (rep r)) σ) K):CloQ P f d cs vs rs K σ:=by
 subst e
 obtain ⟨r,h1,h2⟩:=Option.bind_eq_some_iff.1 h
 have h3:=hk r h2
 rw [A5] at h3
 refine ⟨Tri.mono (hr r h1) ?_⟩
 rintro r' o rfl
 exact ⟨hn r,h3⟩
theorem CloP.o (rep:β→V) {vs vs' cs:List V} {rs:List Nat} {f d:Nat} {K:V→Prop} (e:vs++fzL cs=vs') (hn : ∀r,D7 rs (rep r)=true) (h:oo.bind k=some v) (hr : ∀r,oo=some r→Ret P f vs' (rep r)) (hk : ∀r,k r=some v→K (rep r)):CloP P f d cs vs rs K:=by
 subst e
 obtain ⟨r,h1,h2⟩:=Option.bind_eq_some_iff.1 h
 exact ⟨_,Tri.mono (hr r h1) (by rintro r' _ rfl;exact ⟨rfl,hn r⟩),hk r h2⟩
theorem CallP.o (rep:β→V) {vs vs':List V} {f d:Nat} {K:V→Prop} (e:vs=vs') (h:oo.bind k=some v) (hr : ∀r,oo=some r→Ret P f vs' (rep r)) (hk : ∀r,k r=some v→K (rep r)):CallP P f d vs [] K:=by
 subst e
 obtain ⟨r,h1,h2⟩:=Option.bind_eq_some_iff.1 h
 exact ⟨_,Tri.mono (hr r h1) (by rintro r' _ rfl;exact ⟨rfl,rfl⟩),hk r h2⟩
theorem CallP.rd (rep:β→V) {vs vs':List V} {rs:List Nat} {f d:Nat} {K:V→Prop} (e:vs=vs') (hn : ∀r,(rep r).noFz=true) (h:oo.bind k=some v) (hr : ∀r,oo=some r→Ret P f vs' (rep r)) (hk : ∀r,k r=some v→K (rep r)):CallP P f d vs rs K:=by
 subst e
 obtain ⟨r,h1,h2⟩:=Option.bind_eq_some_iff.1 h
 exact ⟨_,Tri.mono (hr r h1) (by rintro r' _ rfl;exact ⟨rfl,by simp [D7,hn r]⟩),hk r h2⟩
theorem FrzQ.z {T:V} {K:V→Prop} (h:K T.fz):FrzQ T 0 K:=⟨_,Ao T,h⟩
theorem FrzQ.d {T:V} {n:Nat} {K:V→Prop} (T':V) (e:T.fzAt n=T') (h:K T'):FrzQ T n K:=⟨_,e,h⟩
theorem LendP.io {γ:Type} {o:Option (β×γ)} {k:β×γ→Option ρ} (rep:β→V) (rep2:γ→V) {vs vs':List V} {rs:List Nat} {f d j:Nat} {T:V} {K:V→V→Prop} (e:vs=vs')
  (hn : ∀b,D7 rs (rep b)=true) (hn2 : ∀b,D7 rs (rep2 b)=true∧(rep2 b).node=true) (hu : ∀u,upd [] T u=some u) (h:o.bind k=some v) (hr : ∀x,o=some x→Nj P f vs' (rep x.1) j (rep2 x.2))
  (hk : ∀b c,k (b,c)=some v→K (rep b) (rep2 c)):LendP P f d vs rs j [] T K:=by
 subst e
 obtain ⟨⟨b,c⟩,h1,h2⟩:=Option.bind_eq_some_iff.1 h
 exact ⟨_,_,_,hr _ h1,⟨hn b,(hn2 c).1,(hn2 c).2,hu _⟩,hk b c h2⟩
theorem CallQ.io {γ:Type} {o:Option (β×γ)} {k:β×γ→Option ρ} (rep:β→V) (rep2:γ→V) {vs vs':List V} {rs:List Nat} {f d j r:Nat} {p:List Nat} {T:V} (e:vs=vs') (hroots:rs.contains r=false)
  (hn : ∀b,D7 rs (rep b)=true) (hn2 : ∀b,D7 rs (rep2 b)=true∧(rep2 b).node=true) (hT:look σ r = .val T) (h:o.bind k=some v) (hr : ∀x,o=some x→Nj P f vs' (rep x.1) j (rep2 x.2))
  (hk : ∀b c,k (b,c)=some v→Oh p T (rep2 c) fun T'=>B0 (Aw d (.val (rep b)) (F8 r T' (p.length+1) σ)) K):CallQ P f d vs [(j,r,p)] rs K σ:=by
 subst e
 obtain ⟨⟨b,c⟩,h1,h2⟩:=Option.bind_eq_some_iff.1 h
 obtain ⟨T',h3,h4⟩:=He (hk b c h2)
 rw [A5] at h4
 refine ⟨by simp only [Gp,hroots];rfl,Tri.mono (hr _ h1) ?_⟩
 rintro res outs ⟨rfl,ho⟩
 refine ⟨hn b,?_⟩
 rw [ho,hT]
 exact ⟨(hn2 c).1,by rw [h3];show K (Aw d _ (F8 r T' (p.length+Ip (rep2 c)) σ));rw [Tz (hn2 c).2];exact h4⟩
theorem CallQ.give (rep:β→V) {vs vs':List V} {rs:List Nat} {f d j r:Nat} {p:List Nat} {T:V} (e:vs=vs') (hroots:rs.contains r=false)
  (hn : ∀b,D7 rs (rep b)=true) (hT:look σ r = .val T) (h:oo.bind k=some v) (hr : ∀x,oo=some x→Nj P f vs' (rep x) j .dead)
  (hk : ∀b,k b=some v→Oh p T .dead fun T'=>B0 (Aw d (.val (rep b)) (F8 r T' p.length σ)) K):CallQ P f d vs [(j,r,p)] rs K σ:=by
 subst e
 obtain ⟨b,h1,h2⟩:=Option.bind_eq_some_iff.1 h
 obtain ⟨T',h3,h4⟩:=He (hk b h2)
 rw [A5] at h4
 refine ⟨by simp only [Gp,hroots];rfl,Tri.mono (hr _ h1) ?_⟩
 rintro res outs ⟨rfl,ho⟩
 refine ⟨hn b,?_⟩
 rw [ho,hT]
 exact ⟨by cases rs<;>rfl,by rw [h3];exact h4⟩
theorem LendQ.io {γ:Type} {o:Option (β×γ)} {k:β×γ→Option ρ} (rep:β→V) (rep2:γ→V) (cs:γ→List V) (fld:γ→V) {bs:List A} {vs vs':List V} {rs:List Nat} {f d j r:Nat} {p:List Nat} {T:V}
  (e:Aij 0 bs.length vs=vs') (hc : ∀c,rep2 c = .agg (cs c)) (hf : ∀c,(cs c)[j]? = some (fld c)) (hroots:rs.contains r=false)
  (hn : ∀b,D7 rs (rep b)=true) (hn2 : ∀b,D7 rs (fld b)=true∧(fld b).node=true) (hT:look σ r = .val T) (h:o.bind k=some v) (hr : ∀x,o=some x→Nj P f vs' (rep x.1) 0 (rep2 x.2))
  (hk : ∀b c,k (b,c)=some v→Oh p T (fld c) fun T'=>B0 (Aw d (.val (rep b)) (F8 r T' (p.length+1) σ)) K):LendQ P f d 0 bs vs [(j,r,p)] rs K σ:=by
 subst e
 obtain ⟨⟨b,c⟩,h1,h2⟩:=Option.bind_eq_some_iff.1 h
 obtain ⟨T',h3,h4⟩:=He (hk b c h2)
 rw [A5] at h4
 refine ⟨by simp only [Gp,hroots];rfl,Tri.mono (hr _ h1) ?_⟩
 rintro res outs ⟨rfl,ho⟩
 cases outs with
 | nil=>cases ho
 | cons x o=>
   simp only [List.getElem?_cons_zero,Option.some.injEq] at ho
   subst ho
   have hj:(cs c++o)[j]? = some (fld c):=by
    have hlt:=(List.getElem?_eq_some_iff.1 (hf c)).1
    rw [List.getElem?_append_left hlt];exact hf c
   show Pk 0 _ _ (rep2 c::o)
   rw [hc c]
   refine ⟨hn b,?_⟩
   simp only [List.take_zero,List.nil_append]
   rw [hj,hT]
   exact ⟨(hn2 c).1,by rw [h3];show K (Aw d _ (F8 r T' (p.length+Ip (fld c)) σ));rw [Tz (hn2 c).2];exact h4⟩
end
abbrev Tgt:=Ex×List Nat×St
def atQ (t:Tgt):Ex→St→Prop:=fun ex σ=>ex=t.1∧restrict t.2.1 σ=t.2.2
def Eu {σ' τ:Type} (ks:List Nat) (st:σ'→St) (tg:τ→Tgt):σ' ⊕ τ→Ex→St→Prop
 | .inl s=>atQ (.normal,ks,st s)
 | .inr t=>atQ (tg t)
def Ex.isNormal:Ex→Bool
 | .normal=>true
 | .exit _=>false
 | .ret=>false
theorem LoopQ.o {σ' τ ρ:Type} {body:σ'→Option (σ' ⊕ τ)} {k:τ→Option ρ} {v:ρ} {s0:σ'} {P:Program} {c:ACode} {Q:Ex→St→Prop} {σ:St} (ks:List Nat) (st:σ'→St) (tg:τ→Tgt)
  (h:(Ay body s0).bind k=some v) (hb : ∀s o,body s=some o→vc P c (Eu ks st tg o) (st s)) (h0:restrict ks σ=st s0) (hn : ∀t,(tg t).1.isNormal=false) (ha : ∀t,k t=some v→Q (tg t).1 (tg t).2.2) :
  LoopQ P c Q σ:=by
 obtain ⟨t,h1,h2⟩:=Option.bind_eq_some_iff.1 h
 obtain ⟨n,hit⟩:=Ky.1 h1
 refine ⟨ks,n,?_⟩
 rw [h0]
 clear h0 h h1
 induction n generalizing s0 with
 | zero=>cases hit
 | succ n ih=>
   simp only [Aad] at hit
   split at hit
   ·cases hit
   ·rename_i s' e
    refine Nh ?_ (Sg (hb _ _ e))
    rintro ex τ' ⟨h3,h4⟩
    subst h3
    show U8 (awp P c) ks (less Q) n (restrict ks τ')
    rw [h4]
    exact ih hit
   ·rename_i t' e
    cases hit
    refine Nh ?_ (Sg (hb _ _ e))
    rintro ex τ' ⟨h3,h4⟩
    have hne:=hn t
    rw [←h3] at hne
    have hq:=ha t h2
    rw [←h4,←h3] at hq
    cases ex with
    | normal=>cases hne
    | exit i=>exact .inr ⟨_,hq⟩
    | ret=>exact .inr ⟨_,hq⟩
theorem CutQ.o {τ ρ:Type} {e:Option τ} {k:τ→Option ρ} {v:ρ} {P:Program} {c:ACode} {Q:Ex→St→Prop} {σ:St} (tg:τ→Tgt)
  (h:e.bind k=some v) (hb : ∀t,e=some t→vc P c (atQ (tg t)) σ) (ha : ∀t,k t=some v→Q (tg t).1 (tg t).2.2):CutQ P c Q σ:=by
 obtain ⟨t,h1,h2⟩:=Option.bind_eq_some_iff.1 h
 refine ⟨?_⟩
 show awp P c (less Q) σ
 refine Nh ?_ (Sg (hb t h1))
 rintro ex τ' ⟨h3,h4⟩
 have hq:=ha t h2
 rw [←h4,←h3] at hq
 exact .inr ⟨_,hq⟩
end Go.Proofs.Ytmcbocbcpijgeaa.Ax
