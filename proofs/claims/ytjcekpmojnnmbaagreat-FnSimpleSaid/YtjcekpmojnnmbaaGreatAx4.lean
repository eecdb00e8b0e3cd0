/-
 Part of the proof; see the last text of the claim.
-/
import Derived.Test.YtjcekpmojnnmbaaGreatAx3
namespace Go.Proofs.YtjcekpmojnnmbaaGreat.Ax
open Go
structure Br (b:Bool) (X Y:Prop):Prop where
 t:b=true→X
 f:b=false→Y
structure Ask (p X:Prop):Prop where
 p:p
 x:X
structure Elem (xs:List V) (j:Nat) (K:V→Prop):Prop where
 h:K (xs.getD j .dead)
structure Cells (xs:List V) (c n:Nat) (K:List V→Prop):Prop where
 h : ∃us,c+n≤xs.length∧(xs.drop c).take n=us∧K us
structure Kid (T:V) (c:Nat) (K:V→Prop):Prop where
 h : ∃k,T.stepOk=true∧T.kids[c]? = some k∧K k
structure SetKids (x:V) (c:Nat) (us:List V) (K:V→Prop):Prop where
 h : ∃x',x.setKids c us=some x'∧K x'
structure MkQ (d n:Nat) (z:V) (K:List V→Prop):Prop where
 h:K (List.replicate n z)
structure BslQ (d m:Nat) (us:List V) (K:List V→Prop):Prop where
 h:Ow m us=true∧K us
structure AppQ (d:Nat) (xs ys:List V) (K:List V→Prop):Prop where
 h:Da (Bj ys)=true∧xs.length+ys.length≤LIM∧K (xs++ys)
structure NoOwn (ys:List V) (X Y:Prop):Prop where
 h:(A9 (Bj ys)=false∧X)∨(A9 (Bj ys)=true∧Y)
structure SlcQ (xs:List V) (l h:Int) (K:List V→Prop):Prop where
 h:0≤l∧l≤h∧h≤(xs.length:Int)∧K ((xs.drop l.toNat).take (h.toNat-l.toNat))
structure Idx (j:Int) (lo n:Nat) (K:Int→Prop):Prop where
 h:lo≤j→j<n→K j
def Ap:Nat→Nat→Nat
 | x,0=>x*0
 | x,1=>x
 | x,m+2=>x*(m+2)
theorem Aa (x:Nat):Ap x 1=x:=rfl
theorem S0 (x m:Nat):Ap x m=x*m:=by
 unfold Ap;split<;>simp
def A4u (a b:Int):Int:=IntKind.i64.wrap (a*2^(min b.toNat IntKind.i64.bits))
def A5l (a b:Int):Int:=a.fdiv (2^(min b.toNat IntKind.i64.bits))
def A4r (a b:Int):Int:=IntKind.i64.wrap (BitVec.ofInt IntKind.i64.bits a &&& BitVec.ofInt IntKind.i64.bits b).toNat
def orI (a b:Int):Int:=IntKind.i64.wrap (BitVec.ofInt IntKind.i64.bits a ||| BitVec.ofInt IntKind.i64.bits b).toNat
def A32 (a b:Int):Int:=IntKind.i64.wrap (BitVec.ofInt IntKind.i64.bits a ^^^ BitVec.ofInt IntKind.i64.bits b).toNat
def A1v (a b:Int):Int:=IntKind.i64.wrap (BitVec.ofInt IntKind.i64.bits a &&& ~~~BitVec.ofInt IntKind.i64.bits b).toNat
theorem Br.not {b:Bool} {X Y:Prop} (h:Br b Y X):Br (!b) X Y:=by
 cases b
 ·exact ⟨fun _=>h.f rfl,fun e=>Bool.noConfusion e⟩
 exact ⟨fun e=>Bool.noConfusion e,fun _=>h.t rfl⟩
theorem Br.beq {a b:Int} {X Y:Prop} (h1:a=b→X) (h2:a≠b→Y):Br (a==b) X Y:=⟨fun h=>h1 (by simpa using h),fun h=>h2 (by simpa using h)⟩
structure Len (xs:List V) (K:Nat→Prop):Prop where
 h:K xs.length
theorem Len.map {α:Type} {f:α→V} {xs:List α} {K:Nat→Prop} (h:K xs.length):Len (xs.map f) K:=⟨by rw [List.length_map];exact h⟩
theorem Len.app {xs ys:List V} {K:Nat→Prop} (h:K (xs.length+ys.length)):Len (xs++ys) K:=⟨by rw [List.length_append];exact h⟩
theorem Br.yes {X Y:Prop} (h:X):Br true X Y:=⟨fun _=>h,fun e=>Bool.noConfusion e⟩
theorem Br.no {X Y:Prop} (h:Y):Br false X Y:=⟨fun e=>Bool.noConfusion e,fun _=>h⟩
mutual
def Qm:A→(A→Prop)→Prop
 | .top,K=>K .top
 | .val v,K=>K (.val v)
 | .ref r p,K=>K (.ref r p)
 | .addr r p c,K=>K (.addr r p c)
 | .fad cs,K=>K (.fad cs)
 | .agg as,K=>Aar as fun bs=>K (.agg bs)
 | .clo f as,K=>Aar as fun bs=>K (.clo f bs)
 | .tie b f p q,K=>Aar p fun ps=>Aar q fun qs=>K (.tie b f ps qs)
def Aar:List A→(List A→Prop)→Prop
 | [],K=>K []
 | a::r,K=>Qm a fun b=>Aar r fun s=>K (b::s)
end
mutual
theorem Nc:(a:A)→(K:A→Prop)→Qm a K=K a
 | .top,_=>rfl
 | .val _,_=>rfl
 | .ref _ _,_=>rfl
 | .addr _ _ _,_=>rfl
 | .fad _,_=>rfl
 | .agg as,K=>by simp only [Qm];rw [T5 as]
 | .clo f as,K=>by simp only [Qm];rw [T5 as]
 | .tie b f p q,K=>by simp only [Qm];rw [T5 p,T5 q]
theorem T5:(as:List A)→(K:List A→Prop)→Aar as K=K as
 | [],_=>rfl
 | a::r,K=>by simp only [Aar];rw [Nc a,T5 r]
end
def Bm:St→(St→Prop)→Prop
 | [],K=>K []
 | (k,a)::r,K=>Qm a fun b=>Bm r fun s=>K ((k,b)::s)
theorem Ar : ∀(σ:St) (K:St→Prop),Bm σ K=K σ:=by
 intro σ
 induction σ with
 | nil=>intro K;rfl
 | cons e r ih=>intro K;obtain ⟨k,a⟩:=e;simp only [Bm];rw [Nc,ih]
def Ajt (o:Option St) (K:St→Prop):Prop:=match o with
 | some σ=>Bm σ K
 | none=>False
theorem Yv {o:Option St} {K:St→Prop} (h:Ajt o K) : ∃σ,o=some σ∧K σ:=by
 unfold Ajt at h
 split at h
 ·rw [Ar] at h;exact ⟨_,rfl,h⟩
 exact h.elim
def Lq (s:Nat) (b:Bool):St→St
 | []=>[]
 | (k,a)::r=>match Nat.beq k s with
   | true=>(k,.val (.bool b))::r
   | false=>(k,a)::Lq s b r
theorem P0 {s:Nat} {b:Bool} : ∀ {σ:St},look σ s = .val (.bool b)→Lq s b σ=σ:=by
 intro σ
 induction σ with
 | nil=>intro _;rfl
 | cons e r ih=>
   obtain ⟨k,a⟩:=e
   intro h
   simp only [look] at h
   simp only [Lq]
   by_cases hk:k=s
   ·rw [if_pos hk] at h
    subst hk
    rw [show Nat.beq k k=true by simp,h]
   ·rw [if_neg hk] at h
    rw [show Nat.beq k s=false by
     cases hb:Nat.beq k s with
     | false=>rfl
     | true=>exact absurd (Nat.eq_of_beq_eq_true hb) hk]
    simp only [ih h]
def A4h (x:X) (b:Bool) (σ:St):St:=match x with
 | .t s=>Lq s b σ
 | .c _=>σ
def Am2:List Nat→V→(V→Prop)→Prop
 | [],T,K=>K T
 | c::p,T,K=>Kid T c fun k=>Am2 p k K
theorem V8 : ∀ {p:List Nat} {T:V} {K:V→Prop},Am2 p T K → ∃u,sub p T=some u∧K u:=by
 intro p
 induction p with
 | nil=>intro T K h;exact ⟨T,rfl,h⟩
 | cons c p ih=>
   intro T K h
   obtain ⟨k,h1,h2,h3⟩:=h.h
   obtain ⟨u,h4,h5⟩:=ih h3
   exact ⟨u,by simp only [sub,h1,h2,if_true,h4],h5⟩
def Yt (T:A) (p:List Nat) (K:V→Prop):Prop:=match T with
 | .val V=>Am2 p V K
 | _=>False
def Kn:List Nat→V→V→(V→Prop)→Prop
 | [],_,u,K=>K u
 | c::p,T,u,K=>Kid T c fun k=>Kn p k u fun k'=>SetKids T c [k'] K
theorem Ew : ∀ {p:List Nat} {T u:V} {K:V→Prop},Kn p T u K → ∃T',upd p T u=some T'∧K T':=by
 intro p
 induction p with
 | nil=>intro T u K h;exact ⟨u,rfl,h⟩
 | cons c p ih=>
   intro T u K h
   obtain ⟨k,h1,h2,h3⟩:=h.h
   obtain ⟨k',h4,h5⟩:=ih h3
   obtain ⟨T',h6,h7⟩:=h5.h
   exact ⟨T',by simp only [upd,h2,h4,h6],h7⟩
theorem Hv {σ:St} {r:Nat} {p:List Nat} {K:V→Prop} (h:Yt (look σ r) p K) : ∃T u,look σ r = .val T∧sub p T=some u∧Bl σ r p=some u∧K u:=by
 unfold Yt at h
 split at h
 ·rename_i T hT
  obtain ⟨u,h1,h2⟩:=V8 h
  exact ⟨T,u,hT,h1,by simp [Bl,hT,h1],h2⟩
 exact h.elim
def Afl (a b:A) (K:Int→Int→Prop) (E:Prop):Prop:=match a,b with
 | .val (.int .i64 x),.val (.int .i64 y)=>K x y
 | _,_=>E
abbrev InI (n:Int):Prop:= -9223372036854775808≤n∧n≤9223372036854775807
theorem Awr {a b:A} {K:Int→Int→Prop} {E:Prop} (h:Afl a b K E):(∃x y,a = .val (.int .i64 x)∧b = .val (.int .i64 y)∧K x y)∨E:=by
 unfold Afl at h
 split at h
 ·exact .inl ⟨_,_,rfl,rfl,h⟩
 exact .inr h
def Hq (o:Option (Nat×A)) (K:Nat→A→Prop):Prop:=match o with
 | some (d,a)=>Qm a fun b=>K d b
 | none=>False
theorem Ir {o:Option (Nat×A)} {K:Nat→A→Prop} (h:Hq o K) : ∃d a,o=some (d,a)∧K d a:=by
 unfold Hq at h
 split at h
 ·rw [Nc] at h;exact ⟨_,_,rfl,h⟩
 exact h.elim
def A50 (d:Nat) (xs:List V) (K:Nat→A→Prop):Prop:=Len xs fun n=>K d (.val (.int .i64 n))
def A16 (d m m':Nat) (xs:List V) (j:Int) (own:Option (Nat×List Nat)) (K:Nat→A→Prop):Prop:=match Nat.beq m' m with
 | true=>Len xs fun n=>Ask (0≤j∧j<n) (match own with
   | none=>Elem xs j.toNat fun u=>K d (.fad u.cells)
   | some (r,p)=>K d (.addr r p (Ap j.toNat m)))
 | false=>False
structure LkQ (es:List (ByteArray×Lf)) (s:ByteArray) (z:Lf) (ok:Bool) (K:V→Prop):Prop where
 h:K (At4 es s z ok)
structure MsQ (es:List (ByteArray×Lf)) (s:ByteArray) (x:Lf) (K:List (ByteArray×Lf)→Prop):Prop where
 h:K (Jx es s x)
structure BsQ (xs:List V) (K:ByteArray→Prop):Prop where
 h : ∃ns,Oy xs=some ns∧K (Wp ns)
def Awa (d m:Nat) (xs:List V) (K:Nat→A→Prop):Prop:=match Nat.beq m 1 with
 | true=>BsQ xs fun s=>K d (.val (.str s))
 | false=>False
structure FrzQ (T:V) (n:Nat) (K:V→Prop):Prop where
 h : ∃T',T.fzAt n=T'∧K T'
def Af3 (o:AOp) (σ:St) (K:Nat→A→Prop):Prop:=match o with
 | .mlk d x k z ok=>match Ag σ x,Ag σ k with
   | .val (.mp o es),.val (.str s)=>(match o with
     | false=>LkQ es s z ok fun v=>K d (.val v)
     | true=>False)
   | .ref r p,.val (.str s)=>Yt (look σ r) p fun u=>match u with
     | .mp _ es=>LkQ es s z ok fun v=>K d (.val v)
     | _=>False
   | _,_=>False
 | .bstr d x=>match Ag σ x with
   | .val (.sl o m xs)=>(match o with
     | false=>Awa d m xs K
     | true=>False)
   | .ref r p=>Yt (look σ r) p fun u=>match u with
     | .sl _ m xs=>Awa d m xs K
     | _=>False
   | _=>False
 | .bin d op x y=>match op with
   | .add=>Afl (Ag σ x) (Ag σ y) (fun a b=>Ask (InI (a+b)) (K d (.val (.int .i64 (a+b))))) (Hq (qR o σ) K)
   | .sub=>Afl (Ag σ x) (Ag σ y) (fun a b=>Ask (InI (a-b)) (K d (.val (.int .i64 (a-b))))) (Hq (qR o σ) K)
   | .mul=>Afl (Ag σ x) (Ag σ y) (fun a b=>Ask (InI (a*b)) (K d (.val (.int .i64 (a*b))))) (Hq (qR o σ) K)
   | .quo=>Afl (Ag σ x) (Ag σ y) (fun a b=>Ask (b≠0∧InI (a.tdiv b)) (K d (.val (.int .i64 (a.tdiv b))))) (Hq (qR o σ) K)
   | .rem=>Afl (Ag σ x) (Ag σ y) (fun a b=>Ask (b≠0) (K d (.val (.int .i64 (a.tmod b))))) (Hq (qR o σ) K)
   | .shl=>Afl (Ag σ x) (Ag σ y) (fun a b=>Ask (0≤b) (K d (.val (.int .i64 (A4u a b))))) (Hq (qR o σ) K)
   | .shr=>Afl (Ag σ x) (Ag σ y) (fun a b=>Ask (0≤b) (K d (.val (.int .i64 (A5l a b))))) (Hq (qR o σ) K)
   | .and=>Afl (Ag σ x) (Ag σ y) (fun a b=>K d (.val (.int .i64 (A4r a b)))) (Hq (qR o σ) K)
   | .or=>Afl (Ag σ x) (Ag σ y) (fun a b=>K d (.val (.int .i64 (orI a b)))) (Hq (qR o σ) K)
   | .xor=>Afl (Ag σ x) (Ag σ y) (fun a b=>K d (.val (.int .i64 (A32 a b)))) (Hq (qR o σ) K)
   | .andNot=>Afl (Ag σ x) (Ag σ y) (fun a b=>K d (.val (.int .i64 (A1v a b)))) (Hq (qR o σ) K)
   | _=>Hq (qR o σ) K
 | .pick d c x y=>match Ag σ c with
   | .val (.bool b)=>Br b (Hq ((nt (Ag σ x)).map (d,·)) K) (Hq ((nt (Ag σ y)).map (d,·)) K)
   | _=>False
 | .iad d m x i=>match Ag σ x,Ag σ i with
   | .val (.sl _ m' xs),.val (.int _ j)=>A16 d m m' xs j none K
   | .ref r p,.val (.int _ j)=>Yt (look σ r) p fun u=>match u with
     | .sl o m' xs=>match o with
       | true=>A16 d m m' xs j (some (r,p)) K
       | false=>False
     | _=>False
   | _,_=>False
 | .aad d m n x i=>match Fw σ (Ag σ x),Ag σ i with
   | some l,.val (.int _ j)=>Ask (0≤j∧j<n) (Idx j 0 n fun j=>Qm (Ad5 (Ap j.toNat m) l) fun b=>K d b)
   | _,_=>False
 | .ld d n ag x=>match Fw σ (Ag σ x) with
   | some (.own r p c)=>Yt (look σ r) p fun u=>Cells u.kids c n fun ks=>Qm (mkA ag (Z7 r p c ks)) fun b=>K d b
   | _=>Hq (qR o σ) K
 | .mk d m z x=>match Ag σ x with
   | .val (.int _ n)=>Ask (0≤n∧n≤(LIM:Int)) (MkQ d n.toNat z.up fun l=>K d (.val (.sl true m l)))
   | _=>False
 | .mkc d m _ x=>match Ag σ x with
   | .val (.int _ n)=>Ask (0≤n∧n≤(LIM:Int)) (K d (.val (.sl true m [])))
   | _=>False
 | .bsl d m ps=>match Ia (ps.map (Ag σ)) with
   | some Us=>BslQ d m (upL Us) fun l=>K d (.val (.sl true m l))
   | none=>False
 | .mkr d m z x=>match Ag σ x with
   | .val (.int _ n)=>Ask (0≤n∧n≤(LIM:Int)) (MkQ d n.toNat z.up fun l=>FrzQ (.sl true m l) 0 fun T'=>K d (.val T'))
   | _=>False
 | .bslr d m ps=>match Ia (ps.map (Ag σ)) with
   | some Us=>BslQ d m (upL Us) fun l=>FrzQ (.sl true m l) 0 fun T'=>K d (.val T')
   | none=>False
 | .slc d m x lo hi=>match Ag σ x with
   | .val (.ptr o (.agg cs))=>(match o with
     | true=>False
     | false=>(match As5 m cs (lo.map (Ag σ)) (hi.map (Ag σ)) with
       | true=>K d (.val (.sl false 1 cs))
       | false=>False))
   | .val (.sl o m' xs)=>(match o with
     | true=>False
     | false=>(match Nat.beq m' m with
       | true=>(match Aa1 0 (lo.map (Ag σ)) with
         | some l=>(match hi with
           | none=>Len xs fun n=>SlcQ xs l n fun ys=>K d (.val (.sl false m ys))
           | some y=>(match Ap9 (Ag σ y) with
             | some h=>SlcQ xs l h fun ys=>K d (.val (.sl false m ys))
             | none=>False))
         | none=>False)
       | false=>False))
   | _=>False
 | .len d x=>match Ag σ x with
   | .val (.sl _ _ xs)=>A50 d xs K
   | .ref r p=>Yt (look σ r) p fun u=>match u with
     | .sl _ _ xs=>A50 d xs K
     | _=>False
   | _=>Hq (qR o σ) K
 | .sidx d x i=>(match Ag σ x,Ag σ i with
   | .val (.str s),.val (.int _ j)=>Ask (0≤j∧j<(s.size:Int)) (K d (.val (.int .u8 (Afu s j))))
   | _,_=>False)
 | o=>Hq (qR o σ) K
theorem An0 {d m m':Nat} {xs:List V} {j:Int} {own:Option (Nat×List Nat)} {K:Nat→A→Prop} (h:A16 d m m' xs j own K):m'=m∧0≤j∧j<xs.length∧(match own with
  | none=>K d (.fad (xs.getD j.toNat .dead).cells)
  | some (r,p)=>K d (.addr r p (j.toNat*m))):=by
 unfold A16 at h
 split at h
 ·rename_i hm
  have h1:=h.h
  refine ⟨Nat.eq_of_beq_eq_true hm,h1.p.1,h1.p.2,?_⟩
  cases own with
  | none=>exact h1.x.h
  | some e=>have:=h1.x;simpa [S0] using this
 exact h.elim
theorem Akx {d m:Nat} {xs:List V} {K:Nat→A→Prop} (h:Awa d m xs K) : ∃ns,m=1∧Oy xs=some ns∧K d (.val (.str (Wp ns))):=by
 unfold Awa at h
 split at h
 ·rename_i hm
  obtain ⟨ns,h1,h2⟩:=h.h
  exact ⟨ns,Nat.eq_of_beq_eq_true hm,h1,h2⟩
 exact h.elim
theorem Sm {o:AOp} {σ:St} {K:Nat→A→Prop} (h:Af3 o σ K) : ∃d a,qR o σ=some (d,a)∧K d a:=by
 unfold Af3 at h
 split at h
 ·rename_i d x k z ok
  split at h
  ·rename_i o es s hx hk
   split at h
   ·exact ⟨_,_,by simp [qR,hx,hk,mpA,Dx,Asg],h.h⟩
   exact h.elim
  ·rename_i r p s hx hk
   obtain ⟨T,u,hT,hs,hn,hq⟩:=Hv h
   split at hq
   ·exact ⟨_,_,by simp [qR,hx,hk,mpA,hn,Dx,Asg],hq.h⟩
   exact hq.elim
  exact h.elim
 ·rename_i d x
  split at h
  ·rename_i o m xs hx
   split at h
   ·obtain ⟨ns,h1,h2,h3⟩:=Akx h
    subst h1
    exact ⟨_,_,by simp [qR,hx,slA,h2],h3⟩
   exact h.elim
  ·rename_i r p hx
   obtain ⟨T,u,hT,hs,hn,hq⟩:=Hv h
   split at hq
   ·obtain ⟨ns,h1,h2,h3⟩:=Akx hq
    subst h1
    exact ⟨_,_,by simp [qR,hx,slA,hn,h2],h3⟩
   exact hq.elim
  exact h.elim
 ·rename_i d op x y
  split at h
  case h_12=>exact Ir h
  all_goals
   rcases Awr h with ⟨a,b,ha,hb,hk⟩ | h
   case inr=>exact Ir h
  ·exact ⟨_,_,by simp [qR,ha,hb,Dx,V.isBool,R0,Y4 hk.p.1 hk.p.2],hk.x⟩
  ·exact ⟨_,_,by simp [qR,ha,hb,Dx,V.isBool,R0,Y4 hk.p.1 hk.p.2],hk.x⟩
  ·exact ⟨_,_,by simp [qR,ha,hb,Dx,V.isBool,R0,Y4 hk.p.1 hk.p.2],hk.x⟩
  ·exact ⟨_,_,by simp [qR,ha,hb,Dx,V.isBool,R0,hk.p.1,Y4 hk.p.2.1 hk.p.2.2],hk.x⟩
  ·exact ⟨_,_,by simp [qR,ha,hb,Dx,V.isBool,R0,hk.p],hk.x⟩
  ·exact ⟨d,.val (.int .i64 (A4u a b)),by simp [qR,ha,hb,Dx,V.isBool,R0,Int.not_lt.2 hk.p,A4u],hk.x⟩
  ·exact ⟨d,.val (.int .i64 (A5l a b)),by simp [qR,ha,hb,Dx,V.isBool,R0,Int.not_lt.2 hk.p,A5l],hk.x⟩
  ·exact ⟨d,.val (.int .i64 (A4r a b)),by simp [qR,ha,hb,Dx,V.isBool,R0,A4r],hk⟩
  ·exact ⟨d,.val (.int .i64 (orI a b)),by simp [qR,ha,hb,Dx,V.isBool,R0,orI],hk⟩
  ·exact ⟨d,.val (.int .i64 (A32 a b)),by simp [qR,ha,hb,Dx,V.isBool,R0,A32],hk⟩
  exact ⟨d,.val (.int .i64 (A1v a b)),by simp [qR,ha,hb,Dx,V.isBool,R0,A1v],hk⟩
 ·rename_i d c x y
  split at h
  ·rename_i b hb
   cases b
   ·obtain ⟨d',a,h1,h2⟩:=Ir (h.f rfl)
    exact ⟨d',a,by simp only [qR,hb];simpa using h1,h2⟩
   obtain ⟨d',a,h1,h2⟩:=Ir (h.t rfl)
   exact ⟨d',a,by simp only [qR,hb];simpa using h1,h2⟩
  exact h.elim
 ·rename_i d m x i
  split at h
  ·rename_i hx hi
   obtain ⟨h1,h2,h3,h4⟩:=An0 h
   subst h1
   exact ⟨_,_,by simp only [qR,hx,hi,h2,h3,and_self,if_true],h4⟩
  ·rename_i hx hi
   obtain ⟨T,u,hT,hs,hn,hk⟩:=Hv h
   split at hk
   case h_2=>exact hk.elim
   split at hk
   case h_2=>exact hk.elim
   obtain ⟨h1,h2,h3,h4⟩:=An0 hk
   subst h1
   exact ⟨_,_,by simp only [qR,hx,hi,hn,h2,h3,and_self,if_true],h4⟩
  exact h.elim
 ·rename_i d m n x i
  split at h
  ·rename_i hl hi
   have h2:=h.x.h h.p.1 h.p.2
   rw [Nc,S0] at h2
   exact ⟨_,_,by simp only [qR,hl,hi,h.p.1,h.p.2,and_self,if_true],h2⟩
  exact h.elim
 ·rename_i d n ag x
  split at h
  ·rename_i r p c hl
   obtain ⟨T,u,hT,hs,hn,hk⟩:=Hv h
   obtain ⟨ks,h1,h2,h3⟩:=hk.h
   rw [Nc] at h3
   subst h2
   exact ⟨_,_,by simp [qR,hl,X7,hn,h1],h3⟩
  exact Ir h
 ·rename_i d m z x
  split at h
  ·rename_i hx
   exact ⟨_,_,by simp [qR,hx,h.p.1,h.p.2],h.x.h⟩
  exact h.elim
 ·rename_i d m z x
  split at h
  ·rename_i hx
   exact ⟨_,_,by simp [qR,hx,h.p.1,h.p.2],h.x⟩
  exact h.elim
 ·rename_i d m ps
  split at h
  ·rename_i Us hU
   exact ⟨_,_,by simp [qR,hU,h.h.1],h.h.2⟩
  exact h.elim
 ·rename_i d m z x
  split at h
  ·rename_i hx
   obtain ⟨T',e1,h1⟩:=h.x.h.h
   rw [A4] at e1
   subst e1
   exact ⟨_,_,by simp [qR,hx,h.p.1,h.p.2],h1⟩
  exact h.elim
 ·rename_i d m ps
  split at h
  ·rename_i Us hU
   obtain ⟨T',e1,h1⟩:=h.h.2.h
   rw [A4] at e1
   subst e1
   exact ⟨_,_,by simp [qR,hU,h.h.1],h1⟩
  exact h.elim
 ·rename_i d m x lo hi
  split at h
  case h_3=>exact h.elim
  case h_1=>
   rename_i o cs hx
   split at h
   ·exact h.elim
   ·split at h
    case h_2=>exact h.elim
    rename_i hao
    exact ⟨_,_,by simp only [qR,Ajn,hx];rw [if_pos hao];rfl,h⟩
  rename_i o m' xs hx
  split at h
  ·exact h.elim
  split at h
  case h_2=>exact h.elim
  rename_i hm
  have hm':=Nat.eq_of_beq_eq_true hm
  split at h
  case h_2=>exact h.elim
  rename_i l hl
  split at h
  ·obtain ⟨h0,h1,h2,h3⟩:=h.h.h
   have e2:Aa1 (xs.length:Int) ((none:Option X).map (Ag σ))=some (xs.length:Int):=rfl
   exact ⟨_,_,by simp only [qR,Ajn,hx,hl,e2];rw [if_pos ⟨hm',h0,h1,h2⟩];rfl,h3⟩
  rename_i y
  split at h
  case h_2=>exact h.elim
  rename_i hh hy
  obtain ⟨h0,h1,h2,h3⟩:=h.h
  have e2:Aa1 (xs.length:Int) ((some y).map (Ag σ))=some hh:=hy
  exact ⟨_,_,by simp only [qR,Ajn,hx,hl,e2];rw [if_pos ⟨hm',h0,h1,h2⟩];rfl,h3⟩
 ·rename_i d x
  split at h
  ·rename_i hx
   exact ⟨_,_,by simp [qR,hx,Aee],h.h⟩
  ·rename_i hx
   obtain ⟨T,u,hT,hs,hn,hk⟩:=Hv h
   split at hk
   case h_2=>exact hk.elim
   exact ⟨_,_,by simp [qR,hx,Aee,hn],hk.h⟩
  exact Ir h
 ·rename_i d x i
  split at h
  case h_2=>exact h.elim
  rename_i hx hi
  exact ⟨_,_,by simp only [qR,hx,hi];rw [if_pos h.p],h.x⟩
 exact Ir h
def yK (σ:St) (m:Nat) (y:A) (K:List V→St→Prop):Prop:=match y with
 | .val (.sl _ m' ys)=>match Nat.beq m' m with
   | true=>K ys σ
   | false=>False
 | .val (.nilsl _)=>K [] σ
 | .ref r p=>Yt (look σ r) p fun u=>match u with
   | .sl o m' ys=>match o with
     | true=>match Nat.beq m' m with
       | true=>NoOwn ys (K ys σ) (match G8 σ (.ref r p) with
         | some (_,σ1)=>K ys σ1
         | none=>False)
       | false=>False
     | false=>False
   | _=>False
 | _=>False
theorem Avw {σ:St} {m:Nat} {y:A} {K:List V→St→Prop} (h:yK σ m y K) : ∃ys σ1,yS σ m y=some (ys,σ1)∧K ys σ1:=by
 unfold yK at h
 split at h
 ·split at h
  ·rename_i hm
   exact ⟨_,_,by simp [yS,Nat.eq_of_beq_eq_true hm],h⟩
  exact h.elim
 ·exact ⟨_,_,by simp [yS],h⟩
 ·obtain ⟨T,u,hT,hs,hn,hk⟩:=Hv h
  split at hk
  case h_2=>exact hk.elim
  split at hk
  case h_2=>exact hk.elim
  split at hk
  case h_2=>exact hk.elim
  rename_i hm
  have hm':=Nat.eq_of_beq_eq_true hm
  rcases hk.h with ⟨h1,h2⟩ | ⟨h1,h2⟩
  ·exact ⟨_,_,by simp [yS,hn,hm',h1],h2⟩
  split at h2
  ·rename_i U σ1 ht
   exact ⟨_,_,by simp [yS,hn,hm',h1,ht],h2⟩
  exact h2.elim
 exact h.elim
def A4i:AOp→Bool
 | .mov .. => true
 | .pick .. => true
 | .bin .. => true
 | .binb .. => true
 | .un .. => true
 | .cnv .. => true
 | .len .. => true
 | .ext .. => true
 | .iad .. => true
 | .aad .. => true
 | .fadr .. => true
 | .ld .. => true
 | .nck .. => true
 | .mk .. => true
 | .mkc .. => true
 | .mkr .. => true
 | .bslr .. => true
 | .alc .. => true
 | .mkf .. => true
 | .slc .. => true
 | .sidx .. => true
 | .mkm .. => true
 | .mlk .. => true
 | .bstr .. => true
 | _=>false
def Anc {α:Type} (f:α→V) (l:List α) (i:Nat):List V:=(l.map f).set i .dead
def holeW {α:Type} (f:α→V) (l:List α) (i:Nat) (v:V):List V:=(l.map f).set i v
def Afg (σ:St) (a:A) (K:V→St→Prop):Prop:=match a with
 | .ref r (c::p)=>(match look σ r with
   | .val T=>Am2 (c::p) T fun u=>Kn (c::p) T .dead fun T'=>K u (turnP r T' (c::p) σ)
   | _=>False)
 | a=>match I7 σ a with
   | some (v,σ')=>K v σ'
   | none=>False
theorem Sj {σ:St} {a:A} {K:V→St→Prop} (h:Afg σ a K) : ∃v σ',I7 σ a=some (v,σ')∧K v σ':=by
 unfold Afg at h
 split at h
 ·rename_i r c p
  split at h
  case h_2=>exact h.elim
  rename_i T hT
  obtain ⟨u,h1,h2⟩:=V8 h
  obtain ⟨T',h3,h4⟩:=Ew h2
  exact ⟨u,_,by simp only [I7,G8,hT,h1,h3],h4⟩
 split at h
 ·exact ⟨_,_,by assumption,h⟩
 exact h.elim
def Azu (o:AOp) (σ:St) (K:St→Prop):Prop:=match o with
 | .mup m k v=>match Ag σ m,Ag σ k,Ag σ v with
   | .ref r p,.val (.str s),.val u=>match vLf u with
     | some x=>match look σ r with
       | .val T=>Am2 p T fun nd=>match nd with
         | .mp o es=>(match o with
           | true=>MsQ es s x fun es'=>Kn p T (.mp true es') fun T'=>Bm (Gr r T' (p.length+1) σ) K
           | false=>False)
         | _=>False
       | _=>False
     | none=>False
   | _,_,_=>False
 | .bsl d m ps=>match Nd σ (ps.map (Ag σ)) with
   | some (Us,σ1)=>BslQ d m Us fun l=>Bm (Aq d (.val (.sl true m l)) σ1) K
   | none=>False
 | .app d m x y=>yK σ m (Ag σ y) fun ys σ1=>Afg σ1 (Ag σ1 x) fun v σ2=>match v with
   | .sl o m' xs=>(match o with
     | true=>(match Nat.beq m' m with
       | true=>AppQ d xs ys fun l=>Bm (Aq d (.val (.sl true m l)) σ2) K
       | false=>False)
     | false=>False)
   | _=>False
 | .slt d m x hi=>match Ap9 (Ag σ hi) with
   | some h=>Afg σ (Ag σ x) fun v σ2=>match v with
     | .sl o m' xs=>(match o with
       | true=>(match Nat.beq m' m with
         | true=>SlcQ xs 0 h fun ys=>Bm (Aq d (.val (.sl true m ys)) σ2) K
         | false=>False)
       | false=>False)
     | _=>False
   | none=>False
 | .idx d m n ag x i=>match Ag σ i with
   | .val (.int k j)=>Ask (0≤j∧j<n) (Idx j 0 n fun j=>Ajt (if An1 σ (Ag σ x) then A2u d m n ag (Ag σ x) (.val (.int k j)) σ else none) K)
   | _=>False
 | .st n x v=>match I7 σ (Ag σ v) with
   | some (U,σ1)=>match Fw σ1 (Ag σ1 x) with
     | some (.own r p c)=>match look σ1 r with
       | .val T=>Am2 p T fun nd=>match nd.node&&decide (U.cells.length=n)&&Da U.cells with
         | true=>SetKids nd c U.cells fun nd'=>Kn p T nd' fun T'=>Bm (Gr r T' (p.length+1) σ1) K
         | false=>False
       | _=>False
     | _=>False
   | none=>False
 | .nilq d neg x=>match Ag σ x with
   | .val (.sl o _ xs)=>(match o with
     | true=>False
     | false=>Len xs fun n=>Ask ((0:Int)<(n:Int)) (Bm (Aq d (.val (.bool neg)) σ) K))
   | .ref r p=>Yt (look σ r) p fun u=>match u with
     | .sl _ _ xs=>Len xs fun n=>Ask ((0:Int)<(n:Int)) (Bm (Aq d (.val (.bool neg)) σ) K)
     | _=>False
   | _=>Ajt (Bw (.nilq d neg x) σ) K
 | o=>Ajt (Bw o σ) K
theorem Asw {o:AOp} {σ:St} {K:St→Prop} (h:Azu o σ K) : ∃σ',Bw o σ=some σ'∧K σ':=by
 unfold Azu at h
 split at h
 ·rename_i m k v
  split at h
  case h_2=>exact h.elim
  rename_i r p s u hm hk hv
  split at h
  case h_2=>exact h.elim
  rename_i x hx
  split at h
  case h_2=>exact h.elim
  rename_i T hT
  obtain ⟨nd,hs,hq⟩:=V8 h
  split at hq
  case h_2=>exact hq.elim
  rename_i o es
  split at hq
  case h_2=>exact hq.elim
  obtain ⟨T',h1,h2⟩:=Ew hq.h
  rw [Ar] at h2
  exact ⟨_,by simp [Bw,A23,hm,hk,hv,hT,hs,Dx,Asg,hx,h1],h2⟩
 ·rename_i d m ps
  split at h
  ·rename_i Us σ1 hU
   obtain ⟨h1,h2⟩:=h.h
   rw [Ar] at h2
   exact ⟨_,by simp [Bw,Aqv,hU,h1],h2⟩
  exact h.elim
 ·rename_i d m x y
  obtain ⟨ys,σ1,hy,hk⟩:=Avw h
  obtain ⟨v,σ2,hX,hk⟩:=Sj hk
  split at hk
  case h_2=>exact hk.elim
  rename_i o m' xs
  split at hk
  case h_2=>exact hk.elim
  split at hk
  case h_2=>exact hk.elim
  rename_i hm
  have hm':=Nat.eq_of_beq_eq_true hm
  obtain ⟨h1,h2,h3⟩:=hk.h
  rw [Ar] at h3
  exact ⟨_,by simp [Bw,Aw8,hy,hX,hm',h1,h2],h3⟩
 ·rename_i d m x hi
  split at h
  case h_2=>exact h.elim
  rename_i hh hn
  obtain ⟨v,σ2,hX,hk⟩:=Sj h
  split at hk
  case h_2=>exact hk.elim
  rename_i o m' xs
  split at hk
  case h_2=>exact hk.elim
  split at hk
  case h_2=>exact hk.elim
  rename_i hm
  have hm':=Nat.eq_of_beq_eq_true hm
  obtain ⟨_,h1,h2,h3⟩:=hk.h
  rw [Ar] at h3
  exact ⟨_,by simp only [Bw,A0b,hn,hX,hm',h1,h2,and_self,if_true],h3⟩
 ·rename_i d m n ag x i
  split at h
  case h_2=>exact h.elim
  rename_i hi
  obtain ⟨σ',h1,h2⟩:=Yv (h.x.h h.p.1 h.p.2)
  exact ⟨σ',by simp only [Bw,hi];exact h1,h2⟩
 ·rename_i n x v
  split at h
  case h_2=>exact h.elim
  rename_i U σ1 ht
  split at h
  case h_2=>exact h.elim
  rename_i r p c hl
  split at h
  case h_2=>exact h.elim
  rename_i T hT
  obtain ⟨u,hs,hk⟩:=V8 h
  split at hk
  case h_2=>exact hk.elim
  rename_i hc
  obtain ⟨nd',h1,h2⟩:=hk.h
  obtain ⟨T',h3,h4⟩:=Ew h2
  rw [Ar] at h4
  exact ⟨_,by simp only [Bw,Aqb,ht,hl,hT,hs,hc,h1,h3,if_true],h4⟩
 ·rename_i d neg x
  split at h
  ·rename_i o m xs e
   split at h
   ·exact h.elim
   obtain ⟨h1,h2⟩:=h.h
   rw [Ar] at h2
   refine ⟨_,?_,h2⟩
   match xs,h1 with
   | [],h1=>simp at h1
   | y::ys,_=>simp [Bw,Avo,e,Aob]
  ·rename_i r p e
   obtain ⟨T,u,hT,hs,hn,hk⟩:=Hv h
   split at hk
   case h_2=>exact hk.elim
   rename_i o m xs
   obtain ⟨h1,h2⟩:=hk.h
   rw [Ar] at h2
   refine ⟨_,?_,h2⟩
   match xs,h1,hn with
   | [],h1,_=>simp at h1
   | y::ys,_,hn=>simp [Bw,Avo,e,Aob,hn]
  exact Yv h
 exact Yv h
def Amo (o:AOp) (σ:St) (K:St→Prop):Prop:=match A4i o with
 | true=>Af3 o σ fun d a=>Bm (Aq d a σ) K
 | false=>Azu o σ K
theorem Sa {o:AOp} {σ:St} {K:St→Prop} (h:Amo o σ K) : ∃σ',Bw o σ=some σ'∧K σ':=by
 unfold Amo at h
 split at h
 ·obtain ⟨d,a,h1,h2⟩:=Sm h
  rw [Ar] at h2
  exact ⟨_,(Aol h1).1,h2⟩
 exact Asw h
structure CallQ (P:Program) (f d:Nat) (vs:List V) (ls:List (Nat×Nat×List Nat)) (rs:List Nat) (K:St→Prop) (σ:St):Prop where
 h:G7 σ ls rs=true∧Tri P f vs (E8 d ls rs K σ)
structure CallP (P:Program) (f d:Nat) (vs:List V) (rs:List Nat) (K:V→Prop):Prop where
 h : ∃v,Tri P f vs (fun res _=>res=v∧Db rs v=true)∧K v
structure CloQ (P:Program) (f d:Nat) (cs vs:List V) (rs:List Nat) (K:St→Prop) (σ:St):Prop where
 h:Tri P f (vs++fzL cs) (E8 d [] rs K σ)
def Arx (σ:St) (a:A) (io:Bool) (k:Nat) (K:V→List (Nat×Nat×List Nat)→List Nat→Prop):Prop:=match a with
 | .val v=>K v.fz [] []
 | .ref r p=>Yt (look σ r) p fun u=>match io&&u.node with
   | true=>K u [(k,r,p)] []
   | false=>K u.fz [] [r]
 | a=>match Ll σ a with
   | some v=>K v [] a.roots
   | none=>False
def Z4 (σ:St):List (A×Bool)→Nat→(List V→List (Nat×Nat×List Nat)→List Nat→Prop)→Prop
 | [],_,K=>K [] [] []
 | (a,io)::rest,k,K=>Arx σ a io k fun v ls' rs'=>Z4 σ rest (k+1) fun vs ls rs=>K (v::vs) (ls'++ls) (rs'++rs)
theorem Axf {σ:St} {a:A} {io:Bool} {k:Nat} {K:V→List (Nat×Nat×List Nat)→List Nat→Prop} (h:Arx σ a io k K) :
  (∃r p u,io=true∧Qg σ a=some (r,p,u)∧K u [(k,r,p)] [])∨((io=true→Qg σ a=none) ∧ ∃v,Ll σ a=some v∧K v [] a.roots):=by
 cases a with
 | val v=>exact .inr ⟨fun _=>rfl,_,rfl,h⟩
 | ref r p=>
   obtain ⟨T,u,hT,hs,hn,hk⟩:=Hv h
   split at hk
   ·rename_i hb
    simp only [Bool.and_eq_true] at hb
    exact .inl ⟨r,p,u,hb.1,by simp [Qg,hn,hb.2],hk⟩
   ·rename_i hb
    refine .inr ⟨fun hi=> ?_,u.fz,by simp [Ll,hn],hk⟩
    simp only [Qg,hn]
    cases hu:u.node with
    | false=>rfl
    | true=>rw [hi,hu] at hb;cases hb
 | top=>simp [Arx,Ll] at h
 | addr r p c=>simp [Arx,Ll] at h
 | fad cs=>simp [Arx,Ll] at h
 | tie b f p q=>simp [Arx,Ll] at h
 | agg as=>
   simp only [Arx] at h
   split at h
   ·exact .inr ⟨fun _=>rfl,_,by assumption,h⟩
   ·exact h.elim
 | clo f as=>
   simp only [Arx] at h
   split at h
   ·exact .inr ⟨fun _=>rfl,_,by assumption,h⟩
   ·exact h.elim
theorem K4 {σ:St} : ∀ {as:List (A×Bool)} {k:Nat} {K:List V→List (Nat×Nat×List Nat)→List Nat→Prop},Z4 σ as k K → ∃vs ls rs,D8 σ as k=some (vs,ls,rs)∧K vs ls rs:=by
 intro as
 induction as with
 | nil=>intro k K h;exact ⟨[],[],[],rfl,h⟩
 | cons e rest ih=>
   intro k K h
   obtain ⟨a,io⟩:=e
   simp only [Z4] at h
   rcases Axf h with ⟨r,p,u,h1,h2,h3⟩ | ⟨h1,v,h2,h3⟩
   ·obtain ⟨vs,ls,rs,h4,h5⟩:=ih h3
    exact ⟨_,_,_,by simp [D8,h4,h1,h2],h5⟩
   ·obtain ⟨vs,ls,rs,h4,h5⟩:=ih h3
    refine ⟨_,_,_,?_,h5⟩
    simp only [D8,h4]
    have:(if io=true then Qg σ a else none)=none:=by split<;>simp_all
    simp [this,h2]
structure LendQ (P:Program) (f d n:Nat) (bs:List A) (vs:List V) (ls:List (Nat×Nat×List Nat)) (rs:List Nat) (K:St→Prop) (σ:St):Prop where
 h:G7 σ ls rs=true∧Tri P f (Are n bs.length vs) (Uw n (E8 d ls rs K σ))
structure CallT (P:Program) (f m j d:Nat) (vs:List V) (ls:List (Nat×Nat×List Nat)) (rs:List Nat) (K:St→Prop) (σ:St):Prop where
 h:G7 σ ls rs=true∧Aje P f m j vs (E8 d ls rs K σ)
def Ava (P:Program) (f d:Nat) (as:List (A×Bool)) (K:St→Prop) (σ:St):Prop:=match Kk as with
 | some (pre,bs,rest)=>Z4 σ (pre++(bs.map (·,true)++rest)) 0 fun vs ls rs=>LendQ P f d pre.length bs vs ls rs K σ
 | none=>Z4 σ as 0 fun vs ls rs=>CallQ P f d vs ls rs K σ
def opK (P:Program) (o:AOp) (σ:St) (K:St→Prop):Prop:=match o with
 | .call d f as=>Ava P f d (D2 σ as) K σ
 | .cally d x as ms=>match Ag σ x with
   | .val (.clo f cs)=>Z4 σ (D2 σ (as.map (·,false))) 0 fun vs ls rs=>match ls with
     | []=>CloQ P f d cs vs rs K σ
     | _=>False
   | .val (.fclo f cs)=>Z4 σ (D2 σ (as.map (·,false))) 0 fun vs ls rs=>match ls with
     | []=>CloQ P f d cs vs rs K σ
     | _=>False
   | .clo f cs=>Ava P f d (D2 σ (as.map (·,false))++Ac6 ms cs) K σ
   | .tie true f p q=>Z4 σ (D2 σ (as.map (·,false))++Ac6 ms (p ++ .val .dead::q)) 0 fun vs ls rs=>CallT P f as.length p.length d vs ls rs K σ
   | _=>False
 | .slc d m (.t s) lo hi=>(match look σ s with
   | .val T=>(match T.hasOwn with
     | true=>Bm (Agt s σ) fun σ'=>Amo (.slc d m (.t s) lo hi) σ' K
     | false=>Amo (.slc d m (.t s) lo hi) σ K)
   | _=>Amo (.slc d m (.t s) lo hi) σ K)
 | o=>Amo o σ K
theorem Af0 {P:Program} {f d:Nat} {as:List (A×Bool)} {K:St→Prop} {σ:St} (h:Ava P f d as K σ):Ji P f d as K σ:=by
 unfold Ava at h
 unfold Ji
 split at h
 ·rename_i e
  simp only [e]
  obtain ⟨vs,ls,rs,h1,h2⟩:=K4 h
  rw [h1];exact h2.h
 rename_i e
 simp only [e]
 obtain ⟨vs,ls,rs,h1,h2⟩:=K4 h
 rw [h1];exact h2.h
theorem Ah5 {σ:St} : ∀(cs:List V) (k:Nat),D8 σ (cs.map fun c=>(A.val c,false)) k=some (fzL cs,[],[]):=by
 intro cs
 induction cs with
 | nil=>intro k;rfl
 | cons c r ih=>intro k;simp [D8,ih,Ll,fzL,A.roots]
theorem Adp {σ:St} {bs:List (A×Bool)} {us:List V} (hb : ∀k,D8 σ bs k=some (us,[],[])) : ∀ {as:List (A×Bool)} {k:Nat} {vs ls rs},D8 σ as k=some (vs,ls,rs) →
  D8 σ (as++bs) k=some (vs++us,ls,rs):=by
 intro as
 induction as with
 | nil=>intro k vs ls rs h;simp [D8] at h;obtain ⟨rfl,rfl,rfl⟩:=h;exact hb k
 | cons e rest ih=>
   intro k vs ls rs h
   obtain ⟨a,io⟩:=e
   simp only [D8] at h
   split at h
   ·cases h
   ·rename_i vs' ls' rs' h1
    simp only [List.cons_append,D8,ih h1]
    split at h
    ·rename_i r p u h2
     cases h
     rfl
    ·rename_i h2
     split at h
     ·rename_i v h3
      cases h
      rfl
     ·cases h
theorem Ajm {σ:St} {xs:List X} {cs:List V}:Kk (D2 σ (xs.map (·,false))++cs.map fun c=>(A.val c,false))=none:=by
 refine Ac2 fun e he=> ?_
 rcases List.mem_append.1 he with h | h
 ·obtain ⟨y,hy,rfl⟩:=List.mem_map.1 h
  obtain ⟨z,hz,rfl⟩:=List.mem_map.1 hy
  rfl
 obtain ⟨y,hy,rfl⟩:=List.mem_map.1 h
 rfl
theorem Aej {P:Program} {o:AOp} {σ:St} {K:St→Prop} (h:opK P o σ K):Wu P o K σ:=by
 unfold opK at h
 unfold Wu
 split at h
 ·exact Af0 h
 ·split at h
  ·rename_i e
   obtain ⟨vs,ls,rs,h1,h2⟩:=K4 h
   split at h2
   case h_2=>exact h2.elim
   simp only [e,Aae]
   unfold Ji
   rw [Ajm]
   simp only
   rw [Adp (fun k=>Ah5 _ k) h1]
   exact ⟨rfl,h2.h⟩
  ·rename_i e
   obtain ⟨vs,ls,rs,h1,h2⟩:=K4 h
   split at h2
   case h_2=>exact h2.elim
   simp only [e,Aae]
   unfold Ji
   rw [Ajm]
   simp only
   rw [Adp (fun k=>Ah5 _ k) h1,Ac8]
   exact ⟨rfl,h2.h⟩
  ·rename_i e
   simp only [e,Aae];exact Af0 h
  ·rename_i e
   obtain ⟨vs,ls,rs,h1,h2⟩:=K4 h
   simp only [e,Aae,Ays]
   unfold Qn
   rw [h1];exact h2.h
  exact h.elim
 ·rename_i d m s lo hi
  simp only [Ady]
  split at h
  ·rename_i T hT
   simp only [hT]
   split at h
   ·rename_i ho
    rw [Ar] at h
    obtain ⟨σ',e,hk⟩:=Sa h
    simp only [ho]
    rw [e];exact hk
   rename_i ho
   obtain ⟨σ',e,hk⟩:=Sa h
   simp only [ho]
   rw [e];exact hk
  rename_i hne
  obtain ⟨σ',e,hk⟩:=Sa h
  split
  ·rename_i σ2 he
   split at he
   ·rename_i T hT;exact absurd hT (hne T)
   rw [e] at he;cases he;exact hk
  rename_i he
  split at he
  ·rename_i T hT;exact absurd hT (hne T)
  rw [e] at he;cases he
 rename_i h1 h2 h3
 obtain ⟨σ',e,hk⟩:=Sa h
 have hp:Ady o σ=σ:=by
  unfold Ady
  split
  ·exact absurd rfl (h3 _ _ _ _ _)
  ·rfl
 split
 ·exact absurd rfl (h1 _ _ _)
 ·exact absurd rfl (h2 _ _ _ _)
 rw [hp,e];exact hk
def Aut (P:Program) (o:AOp) (σ:St) (K:St→Prop):Prop:=match o with
 | .call d f as=>(match Anm as with
   | []=>opK P (.call d f as) σ K
   | _::_=>Bm (Aa3 as σ) fun τ=>opK P (.call d f as) τ K)
 | o=>opK P o σ K
theorem Ais {P:Program} {o:AOp} {σ:St} {K:St→Prop} (h:Aut P o σ K):Oj P o K σ:=by
 unfold Aut at h
 unfold Oj
 split at h
 ·simp only [Yc]
  split at h
  ·rename_i e
   simp only [e]
   exact Aej h
  rename_i e
  rw [Ar] at h
  simp only [e]
  exact Aej h
 rename_i h1
 have hp:Yc o σ=σ:=by
  unfold Yc
  split
  ·exact absurd rfl (h1 _ _ _)
  ·rfl
 rw [hp]
 exact Aej h
def Qy (P:Program):List G→(St→Prop)→St→Prop
 | [],K,σ=>K σ
 | ⟨none,o⟩::r,K,σ=>Aut P o σ (Qy P r K)
 | ⟨some (s,true),o⟩::r,K,σ=>match look σ s with
   | .val (.bool b)=>Br b (Bm (Lq s true σ) fun τ=>Aut P o τ (Qy P r K)) (Bm (Xi o (Lq s false σ)) (Qy P r K))
   | .val (.tup [])=>Bm (Xi o σ) (Qy P r K)
   | _=>False
 | ⟨some (s,false),o⟩::r,K,σ=>match look σ s with
   | .val (.bool b)=>Br b (Bm (Xi o (Lq s true σ)) (Qy P r K)) (Bm (Lq s false σ) fun τ=>Aut P o τ (Qy P r K))
   | .val (.tup [])=>Bm (Xi o σ) (Qy P r K)
   | _=>False
theorem Ss {P:Program} : ∀ {gs:List G} {K:St→Prop} {σ:St},Qy P gs K σ→Ff P gs K σ:=by
 intro gs
 induction gs with
 | nil=>intro K σ h;exact h
 | cons x r ih=>
   intro K σ h
   obtain ⟨g,o⟩:=x
   have run : ∀ {τ},Aut P o τ (Qy P r K)→Oj P o (Ff P r K) τ:=fun h=>Kv (fun _=>ih) (Ais h)
   match g,h with
   | none,h=>exact run h
   | some (s,true),h=>
     simp only [Qy] at h
     simp only [Ff]
     split at h
     ·rename_i b hb
      simp only [hb]
      refine ⟨fun e=> ?_,fun e=> ?_⟩
      ·subst e
       have:=h.t rfl
       rw [Ar,P0 hb] at this
       exact run this
      ·have e':b=false:=by simpa using e
       subst e'
       have:=h.f rfl
       rw [Ar,P0 hb] at this
       exact ih this
     ·rename_i hb
      simp only [hb]
      rw [Ar] at h;exact ih h
     ·exact h.elim
   | some (s,false),h=>
     simp only [Qy] at h
     simp only [Ff]
     split at h
     ·rename_i b hb
      simp only [hb]
      refine ⟨fun e=> ?_,fun e=> ?_⟩
      ·subst e
       have:=h.f rfl
       rw [Ar,P0 hb] at this
       exact run this
      ·have e':b=true:=by simpa using e
       subst e'
       have:=h.t rfl
       rw [Ar,P0 hb] at this
       exact ih this
     ·rename_i hb
      simp only [hb]
      rw [Ar] at h;exact ih h
     ·exact h.elim
def yNK (σ:St) (m s:Nat) (y:A) (K:List V→Prop):Prop:=match y with
 | .val (.sl _ m' ys)=>(match Nat.beq m' m with
   | true=>K ys
   | false=>False)
 | .val (.nilsl _)=>K []
 | .ref r p=>(match Nat.beq r s with
   | true=>False
   | false=>Yt (look σ r) p fun u=>match u with
     | .sl o m' ys=>(match o with
       | true=>(match Nat.beq m' m with
         | true=>NoOwn ys (K ys) False
         | false=>False)
       | false=>False)
     | _=>False)
 | _=>False
theorem A1l {σ:St} {m s:Nat} {y:A} {K:List V→Prop} (h:yNK σ m s y K) : ∃ys,yN σ m s y=some ys∧K ys:=by
 unfold yNK at h
 split at h
 ·split at h
  ·rename_i hm
   exact ⟨_,by simp [yN,Nat.eq_of_beq_eq_true hm],h⟩
  exact h.elim
 ·exact ⟨_,by simp [yN],h⟩
 ·split at h
  ·exact h.elim
  rename_i hrs
  obtain ⟨T,u,hT,hs,hn,hk⟩:=Hv h
  split at hk
  case h_2=>exact hk.elim
  split at hk
  case h_2=>exact hk.elim
  split at hk
  case h_2=>exact hk.elim
  rename_i hm
  have hm':=Nat.eq_of_beq_eq_true hm
  have hne : ∀ {r:Nat},Nat.beq r s=false→r≠s:=by
   intro r h1 h2;subst h2;simp at h1
  rcases hk.h with ⟨h1,h2⟩ | ⟨_,h2⟩
  ·exact ⟨_,by simp [yN,hn,hm',h1,hne hrs],h2⟩
  exact h2.elim
 exact h.elim
def Ai1:List Nat→(List Nat→Prop)→Prop
 | [],K=>K []
 | n::r,K=>Ai1 r fun s=>K (n::s)
theorem Anu : ∀(l:List Nat) (K:List Nat→Prop),Ai1 l K=K l:=by
 intro l
 induction l with
 | nil=>intro K;rfl
 | cons n r ih=>intro K;simp only [Ai1];rw [ih]
def Aul (P:Program) (o:AOp) (σ:St) (K:Nat→A→List Nat→Prop):Prop:=match o with
 | .call d f as=>match as.all (fun e => !e.2) with
   | true=>Z4 σ (D2 σ as) 0 fun vs ls rs=>match ls with
     | []=>CallP P f d vs rs fun v=>K d (.val v) []
     | _=>False
   | false=>False
 | .app d m (.t s) y=>(match look σ s with
   | .val (.sl o m' xs)=>(match o with
     | true=>(match Nat.beq m' m with
       | true=>yNK σ m s (Ag σ y) fun ys=>AppQ d xs ys fun l=>K d (.val (.sl true m l)) [s]
       | false=>False)
     | false=>False)
   | _=>False)
 | .bsl d m ps=>(match Om σ ps with
   | some (Us,ks)=>BslQ d m Us fun l=>Ai1 ks fun ks=>K d (.val (.sl true m l)) ks
   | none=>False)
 | .asg d (.t s)=>(match look σ s with
   | .val v=>(match v.hasOwn with
     | true=>Qm (.val v) fun a=>K d a [s]
     | false=>Qm (.val v.up) fun a=>K d a [])
   | _=>False)
 | o=>Af3 o σ fun d a=>K d a []
theorem Aoq {P:Program} {o:AOp} {σ:St} {K:Nat→A→List Nat→Prop} (h:Aul P o σ K):P6 P o σ K:=by
 unfold Aul at h
 unfold P6
 split at h
 ·split at h
  case h_2=>exact h.elim
  rename_i hio
  refine ⟨hio,?_⟩
  obtain ⟨vs,ls,rs,h1,h2⟩:=K4 h
  split at h2
  case h_2=>exact h2.elim
  rw [h1]
  exact h2.h
 ·split at h
  case h_2=>exact h.elim
  rename_i hL
  split at h
  case h_2=>exact h.elim
  split at h
  case h_2=>exact h.elim
  rename_i hm
  obtain ⟨ys,h1,h2⟩:=A1l h
  simp only [hL,h1]
  obtain ⟨k1,k2,k3⟩:=h2.h
  exact ⟨⟨trivial,Nat.eq_of_beq_eq_true hm,k1,k2⟩,k3⟩
 ·split at h
  case h_2=>exact h.elim
  rename_i ht
  obtain ⟨k1,k2⟩:=h.h
  rw [Anu] at k2
  simp only [ht]
  exact ⟨k1,k2⟩
 ·split at h
  case h_2=>exact h.elim
  rename_i hL
  split at h
  ·rename_i hv
   rw [Nc] at h
   simp only [hL,hv];exact h
  rename_i hv
  rw [Nc] at h
  simp only [hL,hv];exact h
 rename_i h1 h2 h3 h4
 obtain ⟨d,a,e,hk⟩:=Sm h
 split
 ·exact absurd rfl (h1 _ _ _)
 ·exact absurd rfl (h2 _ _ _ _)
 ·exact absurd rfl (h3 _ _ _)
 ·exact absurd rfl (h4 _ _)
 rw [e];exact hk
def hk (hide kl:List Nat):List Nat:=match kl with
 | []=>hide
 | k::r=>hide++(k::r)
theorem Aq2 (hide kl:List Nat):hk hide kl=hide++kl:=by
 cases kl with
 | nil=>simp [hk]
 | cons k r=>rfl
def Azc (acc:St) (kl:List Nat):Bool:=match kl with
 | []=>true
 | k::r=>Nh acc (k::r)
theorem Amp {acc:St} {kl:List Nat} (h:Azc acc kl=true):Nh acc kl=true:=by
 cases kl with
 | nil=>unfold Nh;simp
 | cons k r=>exact h
def Awf (kl:List Nat) (acc:St):St:=match kl with
 | []=>acc
 | k::r=>D9 (k::r) acc
theorem Asm (kl:List Nat) (acc:St):Awf kl acc=D9 kl acc:=by
 cases kl with
 | nil=>
   simp only [Awf]
   induction acc with
   | nil=>rfl
   | cons e r ih=>obtain ⟨d,a⟩:=e;simp [D9,←ih]
 | cons k r=>rfl
structure LendP (P:Program) (f d:Nat) (vs:List V) (rs:List Nat) (k:Nat) (p:List Nat) (T:V) (K:V→V→Prop):Prop where
 h : ∃v u T',Tri P f vs (fun res outs=>res=v∧outs[k]? = some u)∧(Db rs v=true∧Db rs u=true∧u.node=true∧upd p T u=some T')∧K v T'
def An5 (P:Program) (o:AOp) (s:Nat) (σ:St) (K:Nat→V→Nat×V×Nat→Prop):Prop:=match o with
 | .call d f as=>(match Kk (D2 σ as) with
   | some _=>False
   | none=>Z4 σ (D2 σ as) 0 fun vs ls rs=>match ls with
     | [(k,r,p)]=>(match Nat.beq r s && !rs.contains r with
       | true=>(match look σ r with
         | .val T=>LendP P f d vs rs k p T fun v T'=>K d v (r,T',p.length+1)
         | _=>False)
       | false=>False)
     | _=>False)
 | _=>False
theorem Al2 {P:Program} {o:AOp} {s:Nat} {σ:St} {K:Nat→V→Nat×V×Nat→Prop} (h:An5 P o s σ K):X8 P o s σ K:=by
 unfold An5 at h
 unfold X8
 split at h
 case h_2=>exact h.elim
 split at h
 ·exact h.elim
 rename_i hgv
 obtain ⟨vs,ls,rs,h1,h2⟩:=K4 h
 split at h2
 case h_2=>exact h2.elim
 rename_i k r p
 split at h2
 case h_2=>exact h2.elim
 rename_i hb
 simp only [Bool.and_eq_true,Bool.not_eq_true'] at hb
 split at h2
 case h_2=>exact h2.elim
 rename_i T hT
 simp only [hgv,h1,hT]
 exact ⟨⟨Nat.eq_of_beq_eq_true hb.1,hb.2⟩,h2.h⟩
def Ai2 (ls hide:List Nat) (cs:List (Nat×V×Nat)) (σ:St):St:=match ls with
 | []=>σ
 | l::q=>Mh (l::q) hide cs σ
theorem Axp (σ:St):Z8 [] σ=σ:=by
 induction σ with
 | nil=>rfl
 | cons e r ih=>
   obtain ⟨k,a⟩:=e
   simp [Z8,ih]
theorem Azs {ls hide:List Nat} {cs:List (Nat×V×Nat)} {σ:St} (hc : ∀c∈cs,ls.contains c.1=true):Ai2 ls hide cs σ=Mh ls hide cs σ:=by
 cases ls with
 | nil=>
   have:cs=[]:=by
    cases cs with
    | nil=>rfl
    | cons c q=>have:=hc c (by simp);simp at this
   subst this
   simp only [Ai2,Mh,List.filter_nil,Ge]
   have:(List.filter (fun x=>([]:List Nat).contains x) hide)=[]:=by simp
   rw [this,Axp]
 | cons l q=>rfl
abbrev At2:=St→List Nat→List (Nat×V×Nat)→(St→Prop)→Prop
def Au6 (σ0 acc:St) (o:AOp) (hide kl:List Nat) (cs:List (Nat×V×Nat)) (K:St→Prop) (ih:At2) (acc1:St) (d:Nat) (a:A) (ks:List Nat):Prop:=match Sf d acc σ0 with
 | true=>(match ks with
   | []=>Bm (acc1++[(d,a.mapR (Am d 0))]) fun acc'=>ih acc' kl cs K
   | k::q=>(match Abk (k::q) o (D9 (hk hide kl) acc) with
     | true=>Bm (acc1++[(d,a.mapR (Am d 0))]) fun acc'=>Ai1 (kl++(k::q)) fun kl'=>ih acc' kl' cs K
     | false=>False))
 | false=>False
def Y3 (σ0 acc:St) (o:AOp) (kl:List Nat) (cs:List (Nat×V×Nat)) (K:St→Prop) (ih:At2) (acc1:St):Prop:=match o.dst with
 | some d=>(match Sf d acc σ0 with
   | true=>Bm (acc1++[(d,.val (.tup []))]) fun acc'=>ih acc' kl cs K
   | false=>False)
 | none=>False
def Akg (P:Program) (ls:List Nat) (σ0 acc:St) (o:AOp) (hide kl:List Nat) (cs:List (Nat×V×Nat)) (K:St→Prop) (ih:At2) (acc1:St):Prop:=
 Bm (D9 (hk hide kl) acc1++Ai2 ls hide cs σ0) fun σh=>Aul P o σh (Au6 σ0 acc o hide kl cs K ih acc1)
def Avi (P:Program) (ls:List Nat) (σ0 acc:St) (o:AOp) (s:Nat) (hide kl:List Nat) (cs:List (Nat×V×Nat)) (K:St→Prop) (ih:At2):Prop:=
 Bm (D9 (hk hide kl) acc++Ai2 ls hide.tail cs σ0) fun σh=>An5 P o s σh fun d v c=>match Sf d acc σ0&&ls.contains s&&Aup (look σ0 s)&&Nat.beq c.1 s with
  | true=>Bm (acc++[(d,.val v)]) fun acc'=>ih acc' kl (cs++[c]) K
  | false=>False
def Acb (P:Program) (ls:List Nat) (σ0:St) (x:G×List Nat) (ih:At2) (acc:St) (kl:List Nat) (cs:List (Nat×V×Nat)) (K:St→Prop):Prop:=match x with
 | (⟨none,o⟩,hide)=>(match Lo o hide with
   | []=>Akg P ls σ0 acc o hide kl cs K ih acc
   | s::_=>Avi P ls σ0 acc o s hide kl cs K ih)
 | (⟨some (s,true),o⟩,hide)=>(match (hk hide kl).contains s || !(Lo o hide).isEmpty with
   | true=>False
   | false=>(match look (D9 (hk hide kl) acc++Ai2 ls hide cs σ0) s with
     | .val (.bool b)=>Br b (Akg P ls σ0 acc o hide kl cs K ih (Lq s true acc)) (Y3 σ0 acc o kl cs K ih (Lq s false acc))
     | .val (.tup [])=>Y3 σ0 acc o kl cs K ih acc
     | _=>False))
 | (⟨some (s,false),o⟩,hide)=>(match (hk hide kl).contains s || !(Lo o hide).isEmpty with
   | true=>False
   | false=>(match look (D9 (hk hide kl) acc++Ai2 ls hide cs σ0) s with
     | .val (.bool b)=>Br b (Y3 σ0 acc o kl cs K ih (Lq s true acc)) (Akg P ls σ0 acc o hide kl cs K ih (Lq s false acc))
     | .val (.tup [])=>Y3 σ0 acc o kl cs K ih acc
     | _=>False))
def Atp (σ0 acc:St) (kl:List Nat) (cs:List (Nat×V×Nat)) (K:St→Prop):Prop:=match Azc acc kl with
 | true=>(match cs with
   | []=>Bm (Awf kl acc++σ0) K
   | c::q=>(match Afx acc (c::q) with
     | true=>Bm (Awf kl acc++Ge (c::q) σ0) K
     | false=>False))
 | false=>False
def Am8 (P:Program) (ls:List Nat) (σ0:St) (l:List (G×List Nat)):At2:=
 List.rec (motive:=fun _=>At2) (Atp σ0) (fun x _ ih=>Acb P ls σ0 x ih) l
theorem Vu {hide:List Nat} {acc σ0:St} {s:Nat} {b:Bool} (h:look (D9 hide acc++σ0) s = .val (.bool b)) (hh:hide.contains s=false):Lq s b acc=acc:=by
 rw [Ft] at h
 split at h
 ·rw [Aat _ _ _ hh] at h
  exact P0 h
 rename_i hk
 rw [Yx] at hk
 have hk':Az s acc=false:=by
  rw [hh] at hk;simpa using hk
 clear h hk
 induction acc with
 | nil=>rfl
 | cons e r ih=>
   obtain ⟨k,a⟩:=e
   simp only [Az,Bool.or_eq_false_iff,beq_eq_false_iff_ne] at hk'
   simp only [Lq]
   rw [show Nat.beq k s=false by
    cases hb:Nat.beq k s with
    | false=>rfl
    | true=>exact absurd (Nat.eq_of_beq_eq_true hb) hk'.1]
   simp only [ih hk'.2]
theorem Auw {P:Program} {o:AOp} {σ:St} {c c':Nat→A→List Nat→Prop} (h : ∀d a ks,c d a ks→c' d a ks) (ha:P6 P o σ c):P6 P o σ c':=Aa4 h ha
theorem Agb {P:Program} {ls:List Nat} {σ0:St} : ∀ {l:List (G×List Nat)} {acc:St} {kl:List Nat} {cs:List (Nat×V×Nat)} {KS:List (List Nat)} {CS:List (List (Nat×V×Nat))} {K:St→Prop},KS.flatten=kl→CS.flatten=cs→(∀c∈cs,ls.contains c.1=true)→Am8 P ls σ0 l acc kl cs K→F3 P ls σ0 l acc KS CS K:=by
 intro l
 induction l with
 | nil=>
   intro acc kl cs KS CS K hkl hcs hin h
   subst hkl
   change Atp σ0 acc KS.flatten cs K at h
   simp only [Atp] at h
   split at h
   ·rename_i hr
    split at h
    ·rw [Ar,Asm] at h
     refine ⟨⟨Amp hr,?_⟩,?_⟩
     ·rw [hcs];unfold Afx;simp
     ·rw [hcs];exact h
    ·split at h
     ·rename_i hr2
      rw [Ar,Asm] at h
      rw [←hcs] at h hr2
      exact ⟨⟨Amp hr,hr2⟩,h⟩
     ·exact h.elim
   ·exact h.elim
 | cons x r ih=>
   intro acc kl cs KS CS K hkl hcs hin h
   subst hkl
   obtain ⟨⟨g,o⟩,hide⟩:=x
   change Acb P ls σ0 (⟨g,o⟩,hide) (Am8 P ls σ0 r) acc KS.flatten cs K at h
   have hbk : ∀hide,Ai2 ls hide cs σ0=Mh ls hide CS.flatten σ0:=fun hide=>by rw [Azs hin,hcs]
   have run:Akg P ls σ0 acc o hide KS.flatten cs K (Am8 P ls σ0 r) acc→P6 P o (D9 (hide++KS.flatten) acc++Mh ls hide CS.flatten σ0) fun d a ks=>(Sf d acc σ0=true∧Abk ks o (D9 (hide++KS.flatten) acc)=true)∧F3 P ls σ0 r (acc++[(d,a.mapR (Am d 0))]) (KS++[ks]) (CS++[[]]) K:=by
    intro h
    unfold Akg at h
    rw [Ar,Aq2,hbk] at h
    refine Auw ?_ (Aoq h)
    intro d a ks hk
    unfold Au6 at hk
    rw [Aq2] at hk
    split at hk
    ·rename_i hf
     split at hk
     ·rw [Ar] at hk
      exact ⟨⟨hf,rfl⟩,ih (by simp) (by simp [hcs]) hin hk⟩
     ·split at hk
      ·rename_i hkk
       rw [Ar,Anu] at hk
       exact ⟨⟨hf,hkk⟩,ih (by simp) (by simp [hcs]) hin hk⟩
      ·exact hk.elim
    ·exact hk.elim
   have skip:Y3 σ0 acc o KS.flatten cs K (Am8 P ls σ0 r) acc→(match o.dst with
      | some d=>Sf d acc σ0=true∧F3 P ls σ0 r (acc++[(d,.val (.tup []))]) (KS++[[]]) (CS++[[]]) K
      | none=>False):=by
    intro h
    unfold Y3 at h
    cases hd:o.dst with
    | none=>rw [hd] at h;exact h.elim
    | some d=>
      rw [hd] at h
      cases hf:Sf d acc σ0 with
      | false=>simp only [hf] at h
      | true=>
        simp only [hf] at h
        rw [Ar] at h
        exact ⟨hf,ih (by simp) (by simp [hcs]) hin h⟩
   match g,h with
   | none,h=>
     simp only [Acb] at h
     simp only [F3]
     cases hlo:Lo o hide with
     | nil=>rw [hlo] at h;exact run h
     | cons s q=>
       rw [hlo] at h
       simp only at h ⊢
       unfold Avi at h
       rw [Ar,Aq2,hbk] at h
       refine Af7 ?_ (Al2 h)
       intro d v c hc
       split at hc
       case h_2=>exact hc.elim
       rename_i hcond
       simp only [Bool.and_eq_true] at hcond
       rw [Ar] at hc
       refine ⟨⟨hcond.1.1.1,hcond.1.1.2,hcond.1.2⟩,ih (by simp) (by simp [hcs]) ?_ hc⟩
       intro c' hc'
       rcases List.mem_append.1 hc' with h1 | h1
       ·exact hin c' h1
       ·simp at h1
        subst h1
        rw [Nat.eq_of_beq_eq_true hcond.2];exact hcond.1.1.2
   | some (s,true),h=>
     simp only [Acb,Aq2,hbk] at h
     simp only [F3]
     split at h
     ·exact h.elim
     rename_i hh
     simp only [Bool.or_eq_false_iff,Bool.not_eq_false',List.isEmpty_iff] at hh
     refine ⟨hh.2,?_⟩
     replace hh:=hh.1
     split at h
     ·rename_i b hb
      simp only [hb]
      refine ⟨fun e=> ?_,fun e=> ?_⟩
      ·subst e
       have:=h.t rfl
       rw [Vu hb hh] at this
       exact run this
      ·have e':b=false:=by simpa using e
       subst e'
       have:=h.f rfl
       rw [Vu hb hh] at this
       exact skip this
     ·rename_i hb
      simp only [hb]
      exact skip h
     ·exact h.elim
   | some (s,false),h=>
     simp only [Acb,Aq2,hbk] at h
     simp only [F3]
     split at h
     ·exact h.elim
     rename_i hh
     simp only [Bool.or_eq_false_iff,Bool.not_eq_false',List.isEmpty_iff] at hh
     refine ⟨hh.2,?_⟩
     replace hh:=hh.1
     split at h
     ·rename_i b hb
      simp only [hb]
      refine ⟨fun e=> ?_,fun e=> ?_⟩
      ·subst e
       have:=h.f rfl
       rw [Vu hb hh] at this
       exact run this
      ·have e':b=true:=by simpa using e
       subst e'
       have:=h.t rfl
       rw [Vu hb hh] at this
       exact skip this
     ·rename_i hb
      simp only [hb]
      exact skip h
     ·exact h.elim
structure SameQ (x y:A) (K:Prop):Prop where
 h:x=y∧K
def Ao0 (A:List (Nat×AOp)) (K:St→Prop):St→Prop:=
 List.rec (motive:=fun _=>St→Prop) K (fun e _ ih σ=>Af3 e.2 σ fun d a=>match Aaa a with
  | true=>Bm (Aq d a σ) ih
  | false=>False) A
def Ajv (xs:List Nat) (σ:St) (K:Prop) (A:List (Nat×AOp)):Prop:=
 List.rec (motive:=fun _=>Prop) K (fun e _ ih=>match xs.contains e.1 with
  | true=>Af3 e.2 σ fun d a=>match Aqr a d σ with
    | true=>SameQ (look σ d) a ih
    | false=>False
  | false=>ih) A
def Y5 (P:Program) (o:AOp) (ds:List Nat) (σ:St) (K:St→Prop):Prop:=match ds with
 | []=>Aut P o σ K
 | s::q=>(match o with
   | .app d m x y=>yK σ m (Ag σ y) fun ys σ1=>Afg σ1 (Ag σ1 x) fun v σ2=>match v with
     | .sl o m' xs=>(match o with
       | true=>(match Nat.beq m' m with
         | true=>AppQ d xs ys fun l=>Bm (Jb (s::q) (Aq d (.val (.sl true m l)) σ2)) K
         | false=>False)
       | false=>False)
     | _=>False
   | .slt d m x hi=>(match Ap9 (Ag σ hi) with
     | some h=>Afg σ (Ag σ x) fun v σ2=>match v with
       | .sl o m' xs=>(match o with
         | true=>(match Nat.beq m' m with
           | true=>SlcQ xs 0 h fun ys=>Bm (Jb (s::q) (Aq d (.val (.sl true m ys)) σ2)) K
           | false=>False)
         | false=>False)
       | _=>False
     | none=>False)
   | _=>False)
theorem Ax4 (σ:St):Jb [] σ=σ:=by
 have key : ∀a:A,a.mapR (Aj0 [])=a:=by
  intro a
  have e:Aj0 []=fun r _=>some r:=by funext r p;simp [Aj0]
  rw [e];exact Av2 a
 induction σ with
 | nil=>rfl
 | cons e r ih=>obtain ⟨k,a⟩:=e;simp [Jb,ih,key]
theorem Z0 {P:Program} {o:AOp} {ds:List Nat} {σ:St} {K:St→Prop} (h:Y5 P o ds σ K):Oj P o (fun σ'=>K (Jb ds σ')) σ:=by
 unfold Y5 at h
 split at h
 ·refine Kv (fun σ' hk=> ?_) (Ais h)
  rw [Ax4];exact hk
 split at h
 case h_3=>exact h.elim
 ·obtain ⟨ys,σ1,hy,hk⟩:=Avw h
  obtain ⟨v,σ2,hX,hk⟩:=Sj hk
  split at hk
  case h_2=>exact hk.elim
  split at hk
  case h_2=>exact hk.elim
  split at hk
  case h_2=>exact hk.elim
  rename_i hm
  have hm':=Nat.eq_of_beq_eq_true hm
  obtain ⟨h1,h2,h3⟩:=hk.h
  rw [Ar] at h3
  simp only [Oj,Yc,Wu,Ady,Bw,Aw8,hy,hX,hm',h1,h2]
  simpa using h3
 split at h
 case h_2=>exact h.elim
 rename_i hh hn
 obtain ⟨v,σ2,hX,hk⟩:=Sj h
 split at hk
 case h_2=>exact hk.elim
 split at hk
 case h_2=>exact hk.elim
 split at hk
 case h_2=>exact hk.elim
 rename_i hm
 have hm':=Nat.eq_of_beq_eq_true hm
 obtain ⟨_,h1,h2,h3⟩:=hk.h
 rw [Ar] at h3
 simp only [Oj,Yc,Wu,Ady,Bw,A0b,hn,hX,hm',h1,h2,and_self,if_true]
 simpa using h3
structure Two (X Y:Prop):Prop where
 h:X∧Y
def Aio (P:Program) (A:List (Nat×AOp)) (K:St→Prop) (pl:LPlan):Bool→St→Prop:=
 LPlan.rec (motive:=fun _=>Bool→St→Prop) (fun b σ=>match b with
  | true=>K σ
  | false=>True) (fun _ x xs ds _ ot ihn iho _ σ=>match ot with
    | .nil=>Ajv xs σ (Y5 P x ds σ (ihn true)) A
    | .alt .. => Two (Ajv xs σ (Y5 P x ds σ (ihn true)) A) (iho false σ)) pl
theorem Ame : ∀ {A:List (Nat×AOp)} {K:St→Prop} {σ},Ao0 A K σ→Kb A K σ:=by
 intro A
 induction A with
 | nil=>intro K σ h;exact h
 | cons e r ih=>
   intro K σ h
   obtain ⟨i,x⟩:=e
   have h':Af3 x σ fun d a=>match Aaa a with
    | true=>Bm (Aq d a σ) (Ao0 r K)
    | false=>False:=h
   obtain ⟨d,a,h1,h2⟩:=Sm h'
   simp only [Kb,h1]
   split at h2
   ·rename_i hu
    rw [Ar] at h2
    exact ⟨hu,ih h2⟩
   ·exact h2.elim
theorem Af6 {xs:List Nat} {σ:St} {K:Prop} : ∀ {A:List (Nat×AOp)},Ajv xs σ K A→At9 A xs σ∧K:=by
 intro A
 induction A with
 | nil=>intro h;exact ⟨(fun e he=>by cases he),h⟩
 | cons e r ih=>
   intro h
   change (match xs.contains e.1 with
    | true=>Af3 e.2 σ fun d a=>match Aqr a d σ with
      | true=>SameQ (look σ d) a (Ajv xs σ K r)
      | false=>False
    | false=>Ajv xs σ K r) at h
   split at h
   ·obtain ⟨d,a,h1,h2⟩:=Sm h
    split at h2
    ·rename_i hu
     obtain ⟨h3,h4⟩:=h2.h
     obtain ⟨h5,h6⟩:=ih h4
     refine ⟨fun f hf hx=> ?_,h6⟩
     rcases List.mem_cons.1 hf with rfl | hf
     ·exact ⟨d,a,h1,h3,hu⟩
     ·exact h5 f hf hx
    ·exact h2.elim
   ·rename_i hx
    obtain ⟨h5,h6⟩:=ih h
    refine ⟨fun f hf hx2=> ?_,h6⟩
    rcases List.mem_cons.1 hf with rfl | hf
    ·rw [hx] at hx2;cases hx2
    ·exact h5 f hf hx2
theorem Aon {P:Program} {A:List (Nat×AOp)} {K:St→Prop} : ∀ {pl:LPlan} {b:Bool} {σ},Aio P A K pl b σ→Nm P A K pl b σ:=by
 intro pl
 induction pl with
 | nil=>intro b σ h hb;subst hb;exact h
 | alt i x xs ds nx ot ih1 ih2=>
   intro b σ h
   cases ot with
   | nil=>
     change Ajv xs σ (Y5 P x ds σ (Aio P A K nx true)) A at h
     obtain ⟨h1,h2⟩:=Af6 h
     exact ⟨⟨h1,Kv (fun _=>ih1) (Z0 h2)⟩,fun hb=>by cases hb⟩
   | alt j y ys es ny oy=>
     change Two (Ajv xs σ (Y5 P x ds σ (Aio P A K nx true)) A) (Aio P A K (.alt j y ys es ny oy) false σ) at h
     obtain ⟨h1,h2⟩:=Af6 h.h.1
     exact ⟨⟨h1,Kv (fun _=>ih1) (Z0 h2)⟩,ih2 h.h.2⟩
def Aqo:List Nat→(St→Prop)→St→Prop
 | [],K,σ=>K σ
 | e::r,K,σ=>match look σ (e%100000) with
   | .val T=>FrzQ T (e/100000) fun T'=>Bm (Aq (e%100000) (.val T') (Aq (e%100000) .top σ)) (Aqo r K)
   | .ref q []=>(match look σ q with
     | .val T=>(match Nat.blt q 100000 with
       | true=>FrzQ T 0 fun T'=>Bm (Aq (e%100000) (.val T') (Aq (e%100000) .top (Aq q (.val T') (Aq q .top σ)))) (Aqo r K)
       | false=>Aqo r K σ)
     | _=>Aqo r K σ)
   | _=>Aqo r K σ
theorem Aur : ∀ {ss:List Nat} {K:St→Prop} {σ:St},Aqo ss K σ→K (Az2 ss σ):=by
 intro ss
 induction ss with
 | nil=>intro K σ h;exact h
 | cons e r ih=>
   intro K σ h
   simp only [Aqo] at h
   simp only [Az2]
   split at h
   ·rename_i T hT
    obtain ⟨T',h1,h2⟩:=h.h
    subst h1
    rw [Ar] at h2
    simp only [Al9,Agt,hT]
    exact ih h2
   ·rename_i q hT
    split at h
    ·rename_i T hq
     split at h
     ·rename_i hb
      obtain ⟨T',h1,h2⟩:=h.h
      rw [A4] at h1
      subst h1
      rw [Ar] at h2
      simp only [Al9,hT,hq,hb]
      exact ih h2
     ·rename_i hb
      simp only [Al9,hT,hq,hb]
      exact ih h
    ·rename_i hne
     have e2:Al9 e σ=σ:=by
      simp only [Al9,hT]
     rw [e2]
     exact ih h
   ·rename_i hne hne2
    have e2:Al9 e σ=σ:=by
     unfold Al9
     split
     ·rename_i q hq;exact absurd hq (hne2 q)
     ·unfold Agt
      split
      ·rename_i V hV;exact absurd hV (hne V)
      ·rfl
    rw [e2]
    exact ih h
structure LoopQ (P:Program) (c:ACode) (Q:Ex→St→Prop) (σ:St):Prop where
 h:awp P (.loop c) Q σ
structure CutQ (P:Program) (c:ACode) (Q:Ex→St→Prop) (σ:St):Prop where
 h:awp P (.cut c) Q σ
def vc (P:Program):ACode→(Ex→St→Prop)→St→Prop
 | .skip,Q,σ=>Q .normal σ
 | .reg gs,Q,σ=>Qy P gs (Q .normal) σ
 | .dreg pre post,Q,σ=>Am8 P (Sk pre) σ pre [] [] [] (Qy P post (Q .normal))
 | .dregp n0 ds pre post,Q,σ=>Qy P ((pre.take n0).map (·.1)) (fun σ1=>match Acs n0 (Jb ds σ1) with
   | true=>Bm (Jb ds σ1) fun σ2=>Bm (Vw n0) fun acc=>Am8 P (Sk pre) σ2 (pre.drop n0) acc [] [] (Qy P post (Q .normal))
   | false=>False) σ
 | .seq a b,Q,σ=>vc P a (Z5 (vc P b Q) Q) σ
 | .cond x t e,Q,σ=>match Ag σ x with
   | .val (.bool b)=>Br b (Bm (A4h x true σ) (vc P t Q)) (Bm (A4h x false σ) (vc P e Q))
   | _=>False
 | .block i c,Q,σ=>vc P c (Apk i Q) σ
 | .loop c,Q,σ=>LoopQ P c Q σ
 | .exit i,Q,σ=>Q (.exit i) σ
 | .ret,Q,σ=>Q .ret σ
 | .drop ds c,Q,σ=>Bm (Jb ds σ) (vc P c Q)
 | .cut c,Q,σ=>CutQ P c Q σ
 | .dregl A pl,Q,σ=>Ao0 A (Aio P A (Q .normal) pl true) σ
 | .frz ss c,Q,σ=>Aqo ss (vc P c Q) σ
theorem Awb {x:X} {b:Bool} {σ:St} (h:Ag σ x = .val (.bool b)):A4h x b σ=σ:=by
 cases x with
 | c v=>rfl
 | t s=>
   refine P0 ?_
   simp only [Ag] at h
   split at h
   ·rename_i v hv
    split at h
    ·cases h
    ·rw [hv];exact h
   ·exact h
theorem Uk {P:Program} : ∀ {c:ACode} {Q:Ex→St→Prop} {σ:St},vc P c Q σ→awp P c Q σ:=by
 intro c
 induction c with
 | skip=>intro Q σ h;exact h
 | reg gs=>intro Q σ h;exact Ss h
 | dreg pre post=>intro Q σ h;exact S7 (fun _=>Ss) (Agb rfl rfl (by simp) h)
 | dregp n0 ds pre post=>
   intro Q σ h
   refine Nu (fun σ1 h1=> ?_) (Ss h)
   split at h1
   ·rename_i hd
    rw [Ar,Ar] at h1
    refine ⟨hd,S7 (fun _=>Ss) (Agb (by simp) (by simp) (by simp) h1)⟩
   ·exact h1.elim
 | seq a b ih1 ih2=>
   intro Q σ h
   have h':vc P a (Z5 (vc P b Q) Q) σ:=h
   show awp P a (Z5 (awp P b Q) Q) σ
   exact Rd (Q:=Z5 (vc P b Q) Q) (Mr (fun _ hh=>ih2 hh) fun _ _=>id) (ih1 h')
 | cond x t e ih1 ih2=>
   intro Q σ h
   simp only [vc] at h
   simp only [awp]
   split at h
   ·rename_i b hb
    simp only [hb]
    refine ⟨fun e=> ?_,fun e=> ?_⟩
    ·subst e
     have:=h.t rfl
     rw [Ar,Awb hb] at this
     exact ih1 this
    ·subst e
     have:=h.f rfl
     rw [Ar,Awb hb] at this
     exact ih2 this
   ·exact h.elim
 | block i c ih=>intro Q σ h;exact ih h
 | loop c ih=>intro Q σ h;exact h.h
 | exit i=>intro Q σ h;exact h
 | ret=>intro Q σ h;exact h
 | drop ds c ih=>intro Q σ h;simp only [vc] at h;rw [Ar] at h;exact ih h
 | cut c ih=>intro Q σ h;exact h.h
 | frz ss c ih=>intro Q σ h;simp only [vc] at h;exact ih (Aur h)
 | dregl A R=>intro Q σ h;exact Aad (fun _=>Aon) (Ame h)
theorem Aps {P:Program} {f N:Nat} {ac:ACode} {rs:List RS} {args:List V} {R:V→List V→Prop} (hf:Ay P f N ac rs=true) (hn:args.length≤N)
  (h:vc P ac (Amb N rs args R) (entry N 0 args)):Tri P f args R:=Azm hf hn (Uk h)
theorem A2r {P:Program} {f N m j:Nat} {ac:ACode} {rs:List RS} {args:List V} {R:V→List V→Prop} (hf:Ay P f N ac rs=true) (hn:args.length≤N) (hj:m+j<args.length)
  (h:vc P ac (Amb N rs args R) (Auu N m j f args)):Aje P f m j args R:=Ayd hf hn hj (Uk h)
def A5a {α:Type} (ks:List Nat) (st:α→St) (inv:α→Prop) (μ:α→Nat) (a:α) (σ:St):Prop := ∃b,restrict ks σ=st b∧inv b∧μ b<μ a
theorem LoopQ.by {α:Type} {P:Program} {c:ACode} {Q:Ex→St→Prop} {σ:St} (ks:List Nat) (st:α→St) (inv:α→Prop) (μ:α→Nat) (a0:α) (h0:restrict ks σ=st a0) (hi:inv a0)
  (hr : ∀a,inv a→vc P c (Z5 (A5a ks st inv μ a) Q) (st a)):LoopQ P c Q σ:=by
 refine ⟨Ay0 ks (fun n σ => ∃a,σ=st a∧inv a∧n=μ a) (μ a0) ⟨a0,h0,hi,rfl⟩ ?_⟩
 rintro n σ ⟨a,rfl,ha,rfl⟩
 refine Rd (Mr ?_ fun _ _=> .inl) (Uk (hr a ha))
 rintro σ' ⟨b,h1,h2,h3⟩
 exact ⟨μ b,h3,b,h1,h2,rfl⟩
def Ret (P:Program) (f:Nat) (vs:List V) (v:V):Prop:=Tri P f vs (fun r _=>r=v)
theorem A5 {P:Program} {f N:Nat} {ac:ACode} {rs:List RS} {args:List V} {v:V} (hf:Ay P f N ac rs=true) (hn:args.length≤N)
  (h:vc P ac (Amb N rs args fun r _=>r=v) (entry N 0 args)):Ret P f args v:=Aps hf hn h
abbrev Af (n:Int):V:= .int .i64 n
end Go.Proofs.YtjcekpmojnnmbaaGreat.Ax
namespace Go.Proofs.YtjcekpmojnnmbaaGreat.Ax
open Go
noncomputable def ask {α:Type} (p:Prop) (x:Option α):Option α:=@ite _ p (Classical.propDecidable p) x none
def nth {α:Type} [Inhabited α] (xs:List α) (i:Nat):α:=xs.getD i default
theorem Ue {α:Type} {p:Prop} {x:Option α} {v:α}:ask p x=some v↔p∧x=some v:=by
 unfold ask;split<;>simp_all
theorem Ae {α:Type} {p:Prop} {x:Option α} (h:p):ask p x=x:=by unfold ask;rw [if_pos h]
def Agd {σ τ:Type} (body:σ→Option (σ ⊕ τ)):Nat→σ→Option τ
 | 0,_=>none
 | n+1,s=>match body s with
   | none=>none
   | some (.inl s')=>Agd body n s'
   | some (.inr t)=>some t
theorem Avm {σ τ:Type} {body:σ→Option (σ ⊕ τ)} : ∀ {n m:Nat} {s:σ} {t:τ},n≤m→Agd body n s=some t→Agd body m s=some t:=by
 intro n
 induction n with
 | zero=>intro m s t _ h;cases h
 | succ n ih=>
   intro m s t hm h
   match m,hm with
   | m+1,hm=>
     simp only [Agd] at h ⊢
     split at h
     ·cases h
     ·exact ih (by omega) h
     ·exact h
open Classical in
noncomputable def Al {σ τ:Type} (body:σ→Option (σ ⊕ τ)) (s:σ):Option τ:=if h : ∃t n,Agd body n s=some t then some (Classical.choose h) else none
theorem Mm {σ τ:Type} {body:σ→Option (σ ⊕ τ)} {s:σ} {t:τ}:Al body s=some t ↔ ∃n,Agd body n s=some t:=by
 unfold Al
 constructor
 ·intro h
  split at h
  ·rename_i hx
   cases h
   exact Classical.choose_spec hx
  cases h
 rintro ⟨n,hn⟩
 rw [dif_pos ⟨t,n,hn⟩]
 obtain ⟨m,hm⟩:=Classical.choose_spec (⟨t,n,hn⟩ : ∃t n,Agd body n s=some t)
 have h1:=Avm (Nat.le_max_left n m) hn
 have h2:=Avm (Nat.le_max_right n m) hm
 rw [h1] at h2
 exact h2.symm
theorem Asq {σ τ:Type} (body:σ→Option (σ ⊕ τ)) (s:σ):Al body s=(match body s with
  | none=>none
  | some (.inl s')=>Al body s'
  | some (.inr t)=>some t):=by
 apply Option.ext
 intro t
 rw [Mm]
 constructor
 ·rintro ⟨n,hn⟩
  cases n with
  | zero=>cases hn
  | succ n=>
    simp only [Agd] at hn
    split at hn
    ·cases hn
    ·exact Mm.2 ⟨n,hn⟩
    ·exact hn
 intro h
 split at h
 ·cases h
 ·rename_i s' e
  obtain ⟨n,hn⟩:=Mm.1 h
  exact ⟨n+1,by simp only [Agd,e];exact hn⟩
 rename_i t' e
 exact ⟨1,by simp only [Agd,e];exact h⟩
def upO {α:Type} (f:Nat→Option α):Prop := ∀n m v,n≤m→f n=some v→f m=some v
open Classical in
noncomputable def Amk {α:Type} (f:Nat→Option α):Option α:=if h : ∃v n,f n=some v then some (Classical.choose h) else none
theorem Anz {α:Type} {f:Nat→Option α} {v:α} (h:Amk f=some v) : ∃n,f n=some v:=by
 unfold Amk at h
 split at h
 ·rename_i hx
  cases h
  exact Classical.choose_spec hx
 cases h
theorem Av5 {α:Type} {f:Nat→Option α} (hu:upO f) {v:α} {n:Nat} (h:f n=some v):Amk f=some v:=by
 unfold Amk
 rw [dif_pos ⟨v,n,h⟩]
 obtain ⟨m,hm⟩:=Classical.choose_spec (⟨v,n,h⟩ : ∃v n,f n=some v)
 have h1:=hu _ _ _ (Nat.le_max_left n m) h
 have h2:=hu _ _ _ (Nat.le_max_right n m) hm
 rw [h1] at h2
 exact h2.symm
abbrev Aw (α:Type):List α:=[]
abbrev slr {α:Type} (o:Bool) (m:Nat) (f:α→V) (xs:List α):V:= .sl o m (xs.map f)
class Fz {α:Type} (f:α→V) (g:outParam (α→V)):Prop where
 eq : ∀x,(f x).fz=g x
instance {k:IntKind}:Fz (V.int k) (V.int k):=⟨fun _=>rfl⟩
instance:Fz Af Af:=⟨fun _=>rfl⟩
instance:Fz V.bool V.bool:=⟨fun _=>rfl⟩
instance:Fz V.str V.str:=⟨fun _=>rfl⟩
theorem Ab {α:Type} (f:α→V) {g:α→V} [Fz f g] (xs:List α):fzL (xs.map f)=xs.map g:=by
 induction xs with
 | nil=>rfl
 | cons x r ih=>simp [fzL,Fz.eq,ih]
instance {α:Type} (m:Nat) (f g:α→V) [Fz f g]:Fz (slr true m f) (slr false m g):=⟨fun x=>by simp [slr,V.fz,Ab]⟩
instance {α:Type} (m:Nat) (f:α→V):Fz (slr false m f) (slr false m f):=⟨fun x=>by simp [slr,V.fz]⟩
theorem Ac {α:Type} (m:Nat) (f:α→V) {g:α→V} [Fz f g] (xs:List α):V.fz (.sl true m (xs.map f)) = .sl false m (xs.map g):=by simp [V.fz,Ab]
theorem Ad {α:Type} (f:α→V) {g:α→V} [Fz f g] (x:α):V.fz (f x)=g x:=Fz.eq x
abbrev rA2 {α:Type} (f:α→V) (p:α×α):V:= .agg [f p.1,f p.2]
abbrev rA3 {α:Type} (f:α→V) (p:α×α×α):V:= .agg [f p.1,f p.2.1,f p.2.2]
abbrev rP {α:Type} (o:Bool) (f:α→V) (x:α):V:= .ptr o (f x)
abbrev rO {α:Type} (o:Bool) (f:α→V):Option α→V
 | none=> .nilp
 | some x=> .ptr o (f x)
abbrev rOl {α:Type} (m:Nat) (f:α→V):Option (List α)→V
 | none=> .nl m
 | some xs=> .sl false m (xs.map f)
abbrev rMp {β:Type} (o:Bool) (f:β→Lf) (l:List (ByteArray×β)):V:= .mp o (l.map fun e=>(e.1,f e.2))
instance {β:Type} (o:Bool) (f:β→Lf):Fz (rMp o f) (rMp false f):=⟨fun x=>by simp [V.fz]⟩
theorem LkQ.one {β:Type} (f:β→Lf) (g:β→V) (l:List (ByteArray×β)) (z0:β) {es:List (ByteArray×Lf)} {s:ByteArray} {z:Lf} {K:V→Prop} (e:es=l.map fun e=>(e.1,f e.2)) (hz:z=f z0) (hg : ∀b,(f b).v=g b)
  (h:K (g ((Fu l s).getD z0))):LkQ es s z false K:=by
 subst e;subst hz
 refine ⟨?_⟩
 unfold At4
 rw [Aem,Option.getD_map,hg]
 exact h
theorem LkQ.two {β:Type} (f:β→Lf) (g:β→V) (l:List (ByteArray×β)) (z0:β) {es:List (ByteArray×Lf)} {s:ByteArray} {z:Lf} {K:V→Prop} (e:es=l.map fun e=>(e.1,f e.2)) (hz:z=f z0) (hg : ∀b,(f b).v=g b)
  (h:K (.tup [g ((Fu l s).getD z0),.bool (Fu l s).isSome])):LkQ es s z true K:=by
 subst e;subst hz
 refine ⟨?_⟩
 unfold At4
 rw [Aem,Option.getD_map,hg,Option.isSome_map]
 exact h
theorem MsQ.o {β:Type} (f:β→Lf) (l:List (ByteArray×β)) (b:β) {es:List (ByteArray×Lf)} {s:ByteArray} {x:Lf} {K:List (ByteArray×Lf)→Prop} (e:es=l.map fun e=>(e.1,f e.2)) (hx:x=f b)
  (h:K ((Jx l s b).map fun e=>(e.1,f e.2))):MsQ es s x K:=by
 subst e;subst hx
 exact ⟨by rw [Anp];exact h⟩
theorem BsQ.o (ns:List Int) {xs:List V} {K:ByteArray→Prop} (e:xs=ns.map (V.int .u8)) (h:K (Wp ns)):BsQ xs K:=by
 subst e
 exact ⟨ns,Atx ns,h⟩
instance {α:Type} (f g:α→V) [Fz f g]:Fz (rP true f) (rP false g):=⟨fun x=>by simp [V.fz,Fz.eq]⟩
instance {α:Type} (m:Nat) (f:α→V):Fz (rOl m f) (rOl m f):=⟨fun x=>by cases x<;>simp [rOl,V.fz]⟩
instance {α:Type} (f g:α→V) [Fz f g]:Fz (rO true f) (rO false g):=⟨fun x=>by cases x<;>simp [rO,V.fz,Fz.eq]⟩
instance {α:Type} (f g:α→V) [Fz f g]:Fz (rA2 f) (rA2 g):=⟨fun x=>by simp [V.fz,fzL,Fz.eq]⟩
instance {α:Type} (f g:α→V) [Fz f g]:Fz (rA3 f) (rA3 g):=⟨fun x=>by simp [V.fz,fzL,Fz.eq]⟩
def One {α:Type} (f:α→V):Prop := ∀x,(f x).cells=[f x]∧(f x).isAgg=false
def Ug {α:Type} (m:Nat) (f:α→V):Prop := ∀x,(f x).cells.length=m∧Da (f x).cells=true
section
variable {α ρ:Type} {v:ρ} {x y:Option ρ} {X Y:Prop}
theorem Br.od {p:Prop} [Decidable p] (h:(if p then x else y)=some v) (h1:p→x=some v→X) (h2:¬p→y=some v→Y):Br (decide p) X Y:=by
 by_cases hp:p
 ·rw [if_pos hp] at h;exact ⟨fun _=>h1 hp h,fun e=>absurd hp (of_decide_eq_false e)⟩
 rw [if_neg hp] at h;exact ⟨fun e=>absurd (of_decide_eq_true e) hp,fun _=>h2 hp h⟩
theorem Br.oe {a b:Int} (h:(if a=b then x else y)=some v) (h1:a=b→x=some v→X) (h2:¬a=b→y=some v→Y):Br (a==b) X Y:=by
 have:(a==b)=decide (a=b):=by rw [Bool.eq_iff_iff];simp
 rw [this];exact Br.od h h1 h2
theorem Br.on {a b:Int} (h:(if a≠b then x else y)=some v) (h1:a≠b→x=some v→X) (h2:¬a≠b→y=some v→Y):Br (a != b) X Y:=by
 have:(a != b)=decide (a≠b):=by rw [Bool.eq_iff_iff];simp
 rw [this];exact Br.od h h1 h2
theorem Br.ob {b:Bool} (h:(if b=true then x else y)=some v) (h1:b=true→x=some v→X) (h2:¬b=true→y=some v→Y):Br b X Y:=by
 cases b
 ·exact ⟨fun e=>Bool.noConfusion e,fun _=>h2 (by simp) (by simpa using h)⟩
 exact ⟨fun _=>h1 rfl (by simpa using h),fun e=>Bool.noConfusion e⟩
theorem Br.flip {b:Bool} (h:Br b Y X):Br (!b) X Y:=by
 cases b
 ·exact ⟨fun _=>h.f rfl,fun e=>Bool.noConfusion e⟩
 exact ⟨fun e=>Bool.noConfusion e,fun _=>h.t rfl⟩
theorem Ask.o {p:Prop} (h:ask p x=some v) (hk:p→x=some v→X):Ask p X:=by
 obtain ⟨h1,h2⟩:=Ue.1 h
 exact ⟨h1,hk h1 h2⟩
theorem Idx.o {j:Int} {lo n:Nat} {K:Int→Prop} (h:(if j=lo then x else y)=some v) (h1:x=some v→K lo) (h2:y=some v→Idx j (lo+1) n K):Idx j lo n K:=by
 refine ⟨fun a b=> ?_⟩
 by_cases hj:j=lo
 ·rw [if_pos hj] at h;rw [hj];exact h1 h
 rw [if_neg hj] at h;exact (h2 h).h (by omega) b
theorem Idx.last {j:Int} {lo n:Nat} {K:Int→Prop} (e:lo+1=n) (h1:K lo):Idx j lo n K:=by
 refine ⟨fun a b=> ?_⟩
 have:j=lo:=by omega
 rw [this];exact h1
theorem Idx.lit {j:Int} {lo n:Nat} {K:Int→Prop} (h:K j):Idx j lo n K:=⟨fun _ _=>h⟩
theorem Len.mrep {f:α→V} {w:α} {n:Nat} {K:Nat→Prop} (h:K n):Len ((List.replicate n w).map f) K:=⟨by rw [List.length_map,List.length_replicate];exact h⟩
theorem Len.nil {K:Nat→Prop} (h:K 0):Len [] K:=⟨h⟩
theorem Len.cons {u:V} {us:List V} {K:Nat→Prop} (h:Len us fun n=>K (n+1)):Len (u::us) K:=⟨h.h⟩
variable {f:α→V}
theorem A2a [Inhabited α] (f:α→V) {xs:List α} {j:Nat} (hj:j<xs.length):(xs.map f).getD j .dead=f (nth xs j):=by
 simp [List.getD_eq_getElem?_getD,nth,hj]
theorem Elem.o [Inhabited α] {xs:List α} {j:Nat} {K:V→Prop} (hj:j<xs.length) (hk:K (f (nth xs j))):Elem (xs.map f) j K:=⟨by rw [A2a f hj];exact hk⟩
theorem Acq (hf:One f) (xs:List α):Bj (xs.map f)=xs.map f:=by
 induction xs with
 | nil=>rfl
 | cons x r ih=>simp only [List.map_cons,Bj,(hf x).1,ih];rfl
theorem A1p [Inhabited α] (f:α→V) {xs:List α} {c:Nat} (hc:c<xs.length):(xs.map f).drop c=f (nth xs c)::(xs.map f).drop (c+1):=by
 rw [List.drop_eq_getElem_cons (by simpa using hc)]
 simp [nth,List.getD_eq_getElem?_getD,hc]
theorem Cells.one [Inhabited α] (hf:One f) {xs:List α} {c:Nat} {K:List V→Prop} (hc:c<xs.length) (hk:K [f (nth xs c)]):Cells (Bj (xs.map f)) c 1 K:=by
 refine ⟨_,?_,?_,hk⟩
 ·rw [Acq hf,List.length_map];exact hc
 rw [Acq hf,A1p f hc];rfl
theorem Anf [Inhabited α] {m:Nat} (hf:Ug m f) : ∀ {xs:List α} {i:Nat},i<xs.length → ∃l r,Bj (xs.map f)=l++((f (nth xs i)).cells++r)∧l.length=i*m:=by
 intro xs
 induction xs with
 | nil=>intro i h;simp at h
 | cons x t ih=>
   intro i h
   cases i with
   | zero=>exact ⟨[],Bj (t.map f),rfl,by simp⟩
   | succ i=>
     obtain ⟨l,r,e,hl⟩:=ih (i:=i) (by simpa using h)
     refine ⟨(f x).cells++l,r,by simp only [List.map_cons,Bj,e,List.append_assoc];rfl,?_⟩
     rw [List.length_append,(hf x).1,hl,Nat.succ_mul];omega
theorem Cells.wide [Inhabited α] {m:Nat} (hf:Ug m f) {xs:List α} {i off n:Nat} {K:List V→Prop} (hi:i<xs.length) (hn:off+n≤m) (hk:K (((f (nth xs i)).cells.drop off).take n)) :
  Cells (Bj (xs.map f)) (Ap i m+off) n K:=by
 obtain ⟨l,r,e,hl⟩:=Anf hf hi
 have hw:=(hf (nth xs i)).1
 refine ⟨_,?_,?_,hk⟩
 ·rw [e,S0,List.length_append,List.length_append,hl,hw];omega
 rw [e,S0,←hl,←List.drop_drop,List.drop_left,List.drop_append_of_le_length (by omega),List.take_append_of_le_length (by simp;omega)]
theorem Cells.lit {xs us:List V} {c n:Nat} {K:List V→Prop} (h:Nat.ble (c+n) xs.length=true) (e:(xs.drop c).take n=us) (hk:K us):Cells xs c n K:=⟨us,Nat.le_of_ble_eq_true h,e,hk⟩
theorem Kid.one [Inhabited α] (hf:One f) {m:Nat} {xs:List α} {c:Nat} {K:V→Prop} (hc:c<xs.length) (hk:K (f (nth xs c))):Kid (.sl true m (xs.map f)) c K:=
 ⟨_,rfl,by simp only [V.kids,Acq hf];simp [nth,List.getD_eq_getElem?_getD,hc],hk⟩
theorem Kid.wide [Inhabited α] {m:Nat} (hf:Ug m f) {xs:List α} {i off:Nat} {u:V} {K:V→Prop} (hi:i<xs.length) (hu:(f (nth xs i)).cells[off]? = some u) (hk:K u):Kid (.sl true m (xs.map f)) (Ap i m+off) K:=by
 obtain ⟨l,r,e,hl⟩:=Anf hf hi
 refine ⟨u,rfl,?_,hk⟩
 have ho:off<(f (nth xs i)).cells.length:=(List.getElem?_eq_some_iff.1 hu).1
 simp only [V.kids,e]
 rw [S0,List.getElem?_append_right (by omega),hl,Nat.add_sub_cancel_left,List.getElem?_append_left ho,hu]
theorem Kid.lit {T k:V} {c:Nat} {K:V→Prop} (h1:T.stepOk=true) (h2:T.kids[c]? = some k) (hk:K k):Kid T c K:=⟨k,h1,h2,hk⟩
theorem Axk (hf:One f) : ∀ {xs:List α} {c:Nat} (w:α),c<xs.length→L7 (xs.map f) c [f w]=some ((xs.set c w).map f):=by
 intro xs
 induction xs with
 | nil=>intro c w h;simp at h
 | cons x r ih=>
   intro c w h
   have hlen:(f x).cells.length=1:=by rw [(hf x).1];rfl
   simp only [List.map_cons,L7,hlen]
   cases c with
   | zero=>
     have:(f x).setCells 0 [f w]=some (f w):=by
      have hx:=(hf x).2
      have hv:=(hf w).2
      unfold V.setCells
      split
      ·simp_all [V.isAgg]
      ·simp [Afd,hv]
     simp [this]
   | succ c=>
     have:=ih (c:=c) w (by simpa using h)
     simp [this]
theorem At5 (hf:One f) : ∀ {xs:List α} {c:Nat},c<xs.length→L7 (xs.map f) c [.dead]=some ((xs.map f).set c .dead):=by
 intro xs
 induction xs with
 | nil=>intro c h;simp at h
 | cons x r ih=>
   intro c h
   have hlen:(f x).cells.length=1:=by rw [(hf x).1];rfl
   simp only [List.map_cons,L7,hlen]
   cases c with
   | zero=>
     have:(f x).setCells 0 [.dead]=some .dead:=by
      have hx:=(hf x).2
      unfold V.setCells
      split
      ·simp_all [V.isAgg]
      ·simp [Afd,V.isAgg]
     simp [this]
   | succ c=>
     have:=ih (c:=c) (by simpa using h)
     simp [this]
theorem Aty (hf:One f) : ∀ {xs:List α} {c:Nat} (w:α),c<xs.length→L7 ((xs.map f).set c .dead) c [f w]=some ((xs.set c w).map f):=by
 intro xs
 induction xs with
 | nil=>intro c w h;simp at h
 | cons x r ih=>
   intro c w h
   have hlen:(f x).cells.length=1:=by rw [(hf x).1];rfl
   cases c with
   | zero=>
     simp only [List.map_cons,List.set_cons_zero,L7]
     simp [V.cells,V.setCells,Afd,(hf w).2]
   | succ c=>
     have:=ih (c:=c) w (by simpa using h)
     simp [L7,hlen,this]
theorem Len.hole {xs:List α} {i:Nat} {K:Nat→Prop} (h:K xs.length):Len (Anc f xs i) K:=⟨by simp only [Anc,List.length_set,List.length_map];exact h⟩
theorem SetKids.mkhole (hf:One f) {o:Bool} {m:Nat} {xs:List α} {c:Nat} {K:V→Prop} (hc:c<xs.length) (hk:K (.sl o m (Anc f xs c))):SetKids (.sl o m (xs.map f)) c [.dead] K:=
 ⟨_,by simp only [V.setKids,At5 hf hc,Option.map_some,Anc],hk⟩
theorem SetKids.fill (hf:One f) {o:Bool} {m:Nat} {xs:List α} {c:Nat} {us:List V} {K:V→Prop} (w:α) (e:us=[f w]) (hc:c<xs.length) (hk:K (.sl o m ((xs.set c w).map f))):SetKids (.sl o m (Anc f xs c)) c us K:=by
 subst e
 exact ⟨_,by simp only [V.setKids,Anc,Aty hf w hc,Option.map_some],hk⟩
theorem SetKids.one (hf:One f) {o:Bool} {m:Nat} {xs:List α} {c:Nat} {us:List V} {K:V→Prop} (w:α) (e:us=[f w]) (hc:c<xs.length) (hk:K (.sl o m ((xs.set c w).map f))):SetKids (.sl o m (xs.map f)) c us K:=by
 subst e
 exact ⟨_,by simp only [V.setKids,Axk hf w hc,Option.map_some],hk⟩
theorem Atw [Inhabited α] {m:Nat} (hf:Ug m f) : ∀ {xs:List α} {i off:Nat} {us:List V} (w:α),i<xs.length→(f (nth xs i)).setCells off us=some (f w)→off<m→L7 (xs.map f) (i*m+off) us=some ((xs.set i w).map f):=by
 intro xs
 induction xs with
 | nil=>intro i off us w h;simp at h
 | cons x r ih=>
   intro i off us w h hs ho
   simp only [List.map_cons,L7,(hf x).1]
   cases i with
   | zero=>
     have hs':(f x).setCells off us=some (f w):=hs
     simp [ho,hs']
   | succ i=>
     have:=ih (i:=i) (off:=off) (us:=us) w (by simpa using h) hs ho
     rw [if_neg (by rw [Nat.succ_mul];omega),show (i+1)*m+off-m=i*m+off by rw [Nat.succ_mul];omega,this]
     simp
theorem SetKids.wide [Inhabited α] {m:Nat} (hf:Ug m f) {o:Bool} {xs:List α} {i off:Nat} {us:List V} {K:V→Prop} (w:α) (hi:i<xs.length) (hs:(f (nth xs i)).setCells off us=some (f w)) (ho:off<m) (hk:K (.sl o m ((xs.set i w).map f))) :
  SetKids (.sl o m (xs.map f)) (Ap i m+off) us K:=
 ⟨_,by simp only [V.setKids,S0,Atw hf w hi hs ho,Option.map_some],hk⟩
theorem Arw [Inhabited α] {m:Nat} (hf:Ug m f) : ∀ {xs:List α} {i off:Nat} {us:List V} {v:V},i<xs.length→(f (nth xs i)).setCells off us=some v→off<m→L7 (xs.map f) (i*m+off) us=some (holeW f xs i v):=by
 intro xs
 induction xs with
 | nil=>intro i off us v h;simp at h
 | cons x r ih=>
   intro i off us v h hs ho
   simp only [List.map_cons,L7,(hf x).1,holeW]
   cases i with
   | zero=>
     have hs':(f x).setCells off us=some v:=hs
     simp [ho,hs']
   | succ i=>
     have:=ih (i:=i) (off:=off) (us:=us) (v:=v) (by simpa using h) hs ho
     rw [if_neg (by rw [Nat.succ_mul];omega),show (i+1)*m+off-m=i*m+off by rw [Nat.succ_mul];omega,this]
     simp [holeW]
theorem Aqp {m:Nat} (hf:Ug m f) : ∀ {xs:List α} {i off:Nat} {us:List V} {v:V} (w:α),i<xs.length→v.cells.length=m→v.setCells off us=some (f w)→off<m→L7 (holeW f xs i v) (i*m+off) us=some ((xs.set i w).map f):=by
 intro xs
 induction xs with
 | nil=>intro i off us v w h;simp at h
 | cons x r ih=>
   intro i off us v w h hv hs ho
   cases i with
   | zero=>simp [holeW,L7,hv,ho,hs]
   | succ i=>
     have:=ih (i:=i) (off:=off) (us:=us) (v:=v) w (by simpa using h) hv hs ho
     simp only [holeW,List.map_cons,List.set_cons_succ,L7,(hf x).1] at this ⊢
     rw [if_neg (by rw [Nat.succ_mul];omega),show (i+1)*m+off-m=i*m+off by rw [Nat.succ_mul];omega,this]
     simp
theorem Len.holeW {xs:List α} {i:Nat} {v:V} {K:Nat→Prop} (h:K xs.length):Len (holeW f xs i v) K:=⟨by simp only [Ax.holeW,List.length_set,List.length_map];exact h⟩
theorem SetKids.mkholeW [Inhabited α] {m:Nat} (hf:Ug m f) {o:Bool} {xs:List α} {i off:Nat} {us:List V} {K:V→Prop} (v:V) (hi:i<xs.length) (hs:(f (nth xs i)).setCells off us=some v) (ho:off<m) (hk:K (.sl o m (holeW f xs i v))) :
  SetKids (.sl o m (xs.map f)) (Ap i m+off) us K:=
 ⟨_,by simp only [V.setKids,S0,Arw hf hi hs ho,Option.map_some],hk⟩
theorem SetKids.fillW {m:Nat} (hf:Ug m f) {o:Bool} {xs:List α} {i off:Nat} {us:List V} {v:V} {K:V→Prop} (w:α) (hi:i<xs.length) (hv:v.cells.length=m) (hs:v.setCells off us=some (f w)) (ho:off<m) (hk:K (.sl o m ((xs.set i w).map f))) :
  SetKids (.sl o m (holeW f xs i v)) (Ap i m+off) us K:=
 ⟨_,by simp only [V.setKids,S0,Aqp hf w hi hv hs ho,Option.map_some],hk⟩
theorem SetKids.lit {T T':V} {c:Nat} {us:List V} {K:V→Prop} (h:T.setKids c us=some T') (hk:K T'):SetKids T c us K:=⟨T',h,hk⟩
theorem MkQ.o {d n:Nat} {z:V} {K:List V→Prop} (f:α→V) (w:α) (e:z=f w) (hk:K ((List.replicate n w).map f)):MkQ d n z K:=⟨by rw [e,←List.map_replicate];exact hk⟩
theorem Aux {m:Nat} (hf:Ug m f) (ws:List α):Ow m (ws.map f)=true:=by
 induction ws with
 | nil=>rfl
 | cons w r ih=>simp [Ow,(hf w).1,(hf w).2,ih]
theorem BslQ.o {d m:Nat} {us:List V} {K:List V→Prop} (f:α→V) (ws:List α) (hf:Ug m f) (e:us=ws.map f) (hk:K (ws.map f)):BslQ d m us K:=by
 subst e;exact ⟨Aux hf ws,hk⟩
theorem BslQ.lit {d m:Nat} {us:List V} {K:List V→Prop} (e:Ow m us=true) (hk:K us):BslQ d m us K:=⟨e,hk⟩
theorem Aow {m:Nat} (hf:Ug m f) (ws:List α):Da (Bj (ws.map f))=true:=by
 induction ws with
 | nil=>rfl
 | cons w r ih=>
   have:=(hf w).2
   simp only [Da,List.map_cons,Bj,List.all_append,Bool.and_eq_true] at this ih ⊢
   exact ⟨this,ih⟩
theorem AppQ.o {m d:Nat} {us vs:List V} {K:List V→Prop} (f:α→V) (hf:Ug m f) (xs ys:List α) (ex:us=xs.map f) (ey:vs=ys.map f) (h:ask (xs.length+ys.length≤LIM) x=some v) (hk:x=some v→K ((xs++ys).map f)):AppQ d us vs K:=by
 subst ex;subst ey
 obtain ⟨h1,h2⟩:=Ue.1 h
 exact ⟨Aow hf ys,by simpa using h1,by rw [←List.map_append];exact hk h2⟩
theorem Ags (hf : ∀x,A9 (f x).cells=false) (ws:List α):A9 (Bj (ws.map f))=false:=by
 induction ws with
 | nil=>rfl
 | cons w r ih=>simp only [List.map_cons,Bj,G1,hf w,ih];rfl
theorem SlcQ.o {l h:Int} {xs:List α} {K:List V→Prop} (f:α→V) (hh:ask (0≤l∧l≤h∧h≤(xs.length:Int)) x=some v) (hk:x=some v→K (((xs.drop l.toNat).take (h.toNat-l.toNat)).map f)):SlcQ (xs.map f) l h K:=by
 obtain ⟨⟨h1,h2,h3⟩,h4⟩:=Ue.1 hh
 exact ⟨h1,h2,by simpa using h3,by rw [←List.map_drop,←List.map_take];exact hk h4⟩
theorem NoOwn.o (hf : ∀x,A9 (f x).cells=false) {ws:List α} (h:X):NoOwn (ws.map f) X Y:=⟨.inl ⟨Ags hf ws,h⟩⟩
theorem NoOwn.lit {us:List V} (e:A9 (Bj us)=false) (h:X):NoOwn us X Y:=⟨.inl ⟨e,h⟩⟩
theorem NoOwn.own {us:List V} (e:A9 (Bj us)=true) (h:Y):NoOwn us X Y:=⟨.inr ⟨e,h⟩⟩
end
def Zi (P:Program) (f:Nat) (vs:List V) (v:V) (k:Nat) (u:V):Prop:=Tri P f vs (fun r o=>r=v∧o[k]? = some u)
theorem Wc {P:Program} {f N:Nat} {ac:ACode} {rs:List RS} {args:List V} {v u:V} {k:Nat} (hf:Ay P f N ac rs=true) (hn:args.length≤N)
  (h:vc P ac (Amb N rs args fun r o=>r=v∧o[k]? = some u) (entry N 0 args)):Zi P f args v k u:=Aps hf hn h
def Akn (P:Program) (f:Nat) (vs:List V) (v:V) (k1:Nat) (u1:V) (k2:Nat) (u2:V):Prop:=Tri P f vs (fun r o=>r=v∧o[k1]? = some u1∧o[k2]? = some u2)
theorem Ay1 {P:Program} {f N:Nat} {ac:ACode} {rs:List RS} {args:List V} {v u1 u2:V} {k1 k2:Nat} (hf:Ay P f N ac rs=true) (hn:args.length≤N)
  (h:vc P ac (Amb N rs args fun r o=>r=v∧o[k1]? = some u1∧o[k2]? = some u2) (entry N 0 args)):Akn P f args v k1 u1 k2 u2:=Aps hf hn h
def Ajk (P:Program) (f m j:Nat) (vs:List V) (v:V) (k1:Nat) (u1:V) (k2:Nat) (u2:V):Prop:=Aje P f m j vs (fun r o=>r=v∧o[k1]? = some u1∧o[k2]? = some u2)
theorem Azq {P:Program} {f N m j:Nat} {ac:ACode} {rs:List RS} {args:List V} {v u1 u2:V} {k1 k2:Nat} (hf:Ay P f N ac rs=true) (hn:args.length≤N) (hj:m+j<args.length)
  (h:vc P ac (Amb N rs args fun r o=>r=v∧o[k1]? = some u1∧o[k2]? = some u2) (Auu N m j f args)):Ajk P f m j args v k1 u1 k2 u2:=A2r hf hn hj h
theorem RdL.drop {w:World} {O:Nat→Prop} : ∀(k:Nat) {os:List V} {us:List Value} {fp:List Nat},RdL w O os us fp → ∃fp',RdL w O (os.set k .dead) us fp'∧List.Sublist fp' fp
 | _,_,_,_,.nil=>⟨[],.nil,.slnil⟩
 | 0,_,_,_,.leaf _ t=>⟨_,.leaf (.dead _) t,.refl _⟩
 | 0,_,_,_,.grp _ _ t=>⟨_,.leaf (.dead _) t,List.sublist_append_right _ _⟩
 | 0,_,_,_,.fblk _ _ _ _ t=>⟨_,.leaf (.dead _) t,.refl _⟩
 | 0,_,_,_,.oblk _ _ _ _ _ t=>⟨_,.leaf (.dead _) t,(List.sublist_append_right _ _).cons _⟩
 | 0,_,_,_,.mpf _ _ _ t=>⟨_,.leaf (.dead _) t,.refl _⟩
 | 0,_,_,_,.mpo _ _ _ t=>⟨_,.leaf (.dead _) t,(List.Sublist.refl _).cons _⟩
 | k+1,_,_,_,.leaf h t=>let ⟨_,a,b⟩:=RdL.drop k t;⟨_,.leaf h a,b⟩
 | k+1,_,_,_,.grp h s t=>let ⟨_,a,b⟩:=RdL.drop k t;⟨_,.grp h s a,(List.Sublist.refl _).append b⟩
 | k+1,_,_,_,.fblk h hc hO s t=>let ⟨_,a,b⟩:=RdL.drop k t;⟨_,.fblk h hc hO s a,b⟩
 | k+1,_,_,_,.oblk h hb hO hk s t=>let ⟨_,a,b⟩:=RdL.drop k t;⟨_,.oblk h hb hO hk s a,((List.Sublist.refl _).append b).cons_cons _⟩
 | k+1,_,_,_,.mpf hb he hO t=>let ⟨_,a,b⟩:=RdL.drop k t;⟨_,.mpf hb he hO a,b⟩
 | k+1,_,_,_,.mpo hb he hO t=>let ⟨_,a,b⟩:=RdL.drop k t;⟨_,.mpo hb he hO a,b.cons_cons _⟩
theorem Tri.drop {P:Program} {f:Nat} {args:List V} {k:Nat} {R:V→List V→Prop} (h:Tri P f args fun r o=>R r (o.set k .dead)):Tri P f args R:=by
 intro w O vals fp h1 h2
 obtain ⟨h3,h4⟩:=h w O vals fp h1 h2
 refine ⟨h3,h4.mono ?_⟩
 rintro e w' ⟨res,outs,rv,O',fpr,fpo,hR,he,r1,ro,hnd,hm⟩
 obtain ⟨fp',a,b⟩:=RdL.drop k ro
 have hs:List.Sublist (fpr++fp') (fpr++fpo):=(List.Sublist.refl _).append b
 exact ⟨res,_,rv,O',fpr,fp',hR,he,r1,a,hs.nodup hnd,⟨hm.os,hm.tape,hm.output,hm.size,hm.same,fun b hb=>hm.new b (hs.subset hb)⟩⟩
theorem Tri.freeze {P:Program} {f:Nat} {args:List V} {R:V→List V→Prop} (h:Tri P f args fun r o=>R r.fz o):Tri P f args R:=by
 intro w O vals fp h1 h2
 obtain ⟨h3,h4⟩:=h w O vals fp h1 h2
 refine ⟨h3,h4.mono ?_⟩
 rintro e w' ⟨res,outs,rv,O',fpr,fpo,hR,he,r1,ro,hnd,hm⟩
 have hd:=List.nodup_append.1 hnd
 have hnew : ∀b,b∈fpr→b∈fp∨w.heap.size≤b:=fun b hb=>hm.new b (by simp [hb])
 refine ⟨res.fz,outs,rv,fun b=>O' b∧b∉fpr,[],fpo,hR,he,?_,?_,by simpa using hd.2.1,⟨hm.os,hm.tape,hm.output,hm.size,fun b hb hS=> ?_,fun b hb=>hm.new b (by simpa using Or.inr (by simpa using hb))⟩⟩
 ·have:=r1.fz (O2:=fun b=>O' b∧b∉fpr) (fun b hb hh=>hh.2 hb) (fun b hb _ hh=>hb hh.1)
  simpa [fzL] using this
 ·exact ro.frame (fun b hb=>⟨rfl,(ro.fpO b hb).1,fun hh=>hd.2.2 b hh b hb rfl⟩) (fun b hb _=>⟨rfl,fun hh=>hb hh.1⟩)
 have:=hm.same b hb hS
 refine ⟨this.1,⟨fun hh=>this.2.1 hh.1,fun hh=>⟨this.2.2 hh,fun hf=> ?_⟩⟩⟩
 rcases hnew b hf with h5 | h5
 ·exact hS h5
 omega
theorem Rk {P:Program} {f N:Nat} {ac:ACode} {rs:List RS} {args:List V} {v:V} (hf:Ay P f N ac rs=true) (hn:args.length≤N)
  (h:vc P ac (Amb N rs args fun r _=>r.fz=v) (entry N 0 args)):Ret P f args v:=Tri.freeze (R:=fun r _=>r=v) (Aps hf hn h)
theorem Ret.frz {P:Program} {f:Nat} {vs:List V} {v v':V} (h:Ret P f vs v) (e:v.fz=v'):Ret P f vs v':=
 Tri.freeze (R:=fun r _=>r=v') (Tri.mono h fun r _ hr=>by rw [show r=v from hr];exact e)
theorem Zi.frz {P:Program} {f k:Nat} {vs:List V} {v v' u:V} (h:Zi P f vs v k u) (e:v.fz=v'):Zi P f vs v' k u:=
 Tri.freeze (R:=fun r o=>r=v'∧o[k]? = some u) (Tri.mono h fun r _ hr=>⟨by rw [show r=v from hr.1];exact e,hr.2⟩)
theorem Ret.cast {P:Program} {f:Nat} {vs vs':List V} {v:V} (e:vs=vs') (h:Ret P f vs v):Ret P f vs' v:=e▸h
class NoFz {α:Type} (f:α→V):Prop where
 eq : ∀x,(f x).noFz=true
instance {k:IntKind}:NoFz (V.int k):=⟨fun _=>rfl⟩
instance:NoFz Af:=⟨fun _=>rfl⟩
instance:NoFz V.bool:=⟨fun _=>rfl⟩
instance:NoFz V.str:=⟨fun _=>rfl⟩
theorem Bo {α:Type} {f:α→V} [NoFz f] (xs:List α):Ca (xs.map f)=true:=by
 induction xs with
 | nil=>rfl
 | cons x r ih=>simp [Ca,NoFz.eq,ih]
instance {α:Type} (m:Nat) (f:α→V) [NoFz f]:NoFz (slr true m f):=⟨fun x=>by simp [V.noFz,Bo]⟩
instance {β:Type} (f:β→Lf):NoFz (rMp true f):=⟨fun x=>by simp [V.noFz]⟩
instance {α:Type} (f:α→V) [NoFz f]:NoFz (rP true f):=⟨fun x=>by simp [V.noFz,NoFz.eq]⟩
instance {α:Type} (f:α→V) [NoFz f]:NoFz (rO true f):=⟨fun x=>by cases x<;>simp [V.noFz,NoFz.eq]⟩
instance {α:Type} (f:α→V) [NoFz f]:NoFz (rA2 f):=⟨fun x=>by simp [V.noFz,Ca,NoFz.eq]⟩
instance {α:Type} (f:α→V) [NoFz f]:NoFz (rA3 f):=⟨fun x=>by simp [V.noFz,Ca,NoFz.eq]⟩
section
variable {P:Program} {K:St→Prop} {σ:St} {β ρ:Type} {v:ρ} {oo:Option β} {k:β→Option ρ}
theorem CallQ.o (rep:β→V) {vs vs':List V} {f d:Nat} (e:vs=vs') (h:oo.bind k=some v) (hr : ∀r,oo=some r→Ret P f vs' (rep r)) (hk : ∀r,k r=some v→Bm (Aq d (.val (rep r)) σ) K):CallQ P f d vs [] [] K σ:=by
 subst e
 obtain ⟨r,h1,h2⟩:=Option.bind_eq_some_iff.1 h
 have h3:=hk r h2
 rw [Ar] at h3
 refine ⟨rfl,Tri.mono (hr r h1) ?_⟩
 rintro r o rfl
 exact ⟨rfl,h3⟩
theorem CallQ.rd (rep:β→V) {vs vs':List V} {rs:List Nat} {f d:Nat} (e:vs=vs') (hn : ∀r,(rep r).noFz=true) (h:oo.bind k=some v) (hr : ∀r,oo=some r→Ret P f vs' (rep r)) (hk : ∀r,k r=some v→Bm (Aq d (.val (rep r)) σ) K):CallQ P f d vs [] rs K σ:=by
 subst e
 obtain ⟨r,h1,h2⟩:=Option.bind_eq_some_iff.1 h
 have h3:=hk r h2
 rw [Ar] at h3
 refine ⟨rfl,Tri.mono (hr r h1) ?_⟩
 rintro r' o rfl
 exact ⟨by simp [Db,hn r],h3⟩
theorem CloQ.o (rep:β→V) {vs vs' cs:List V} {rs:List Nat} {f d:Nat} (e:vs++fzL cs=vs') (hn : ∀r,Db rs (rep r)=true) (h:oo.bind k=some v) (hr : ∀r,oo=some r→Ret P f vs' (rep r)) (hk : ∀r,k r=some v→Bm (Aq d (.val (rep r)) σ) K):CloQ P f d cs vs rs K σ:=by
 subst e
 obtain ⟨r,h1,h2⟩:=Option.bind_eq_some_iff.1 h
 have h3:=hk r h2
 rw [Ar] at h3
 refine ⟨Tri.mono (hr r h1) ?_⟩
 rintro r' o rfl
 exact ⟨hn r,h3⟩
theorem CallP.o (rep:β→V) {vs vs':List V} {f d:Nat} {K:V→Prop} (e:vs=vs') (h:oo.bind k=some v) (hr : ∀r,oo=some r→Ret P f vs' (rep r)) (hk : ∀r,k r=some v→K (rep r)):CallP P f d vs [] K:=by
 subst e
 obtain ⟨r,h1,h2⟩:=Option.bind_eq_some_iff.1 h
 exact ⟨_,Tri.mono (hr r h1) (by rintro r' _ rfl;exact ⟨rfl,rfl⟩),hk r h2⟩
theorem CallP.rd (rep:β→V) {vs vs':List V} {rs:List Nat} {f d:Nat} {K:V→Prop} (e:vs=vs') (hn : ∀r,(rep r).noFz=true) (h:oo.bind k=some v) (hr : ∀r,oo=some r→Ret P f vs' (rep r)) (hk : ∀r,k r=some v→K (rep r)):CallP P f d vs rs K:=by
 subst e
 obtain ⟨r,h1,h2⟩:=Option.bind_eq_some_iff.1 h
 exact ⟨_,Tri.mono (hr r h1) (by rintro r' _ rfl;exact ⟨rfl,by simp [Db,hn r]⟩),hk r h2⟩
theorem FrzQ.z {T:V} {K:V→Prop} (h:K T.fz):FrzQ T 0 K:=⟨_,A4 T,h⟩
theorem FrzQ.d {T:V} {n:Nat} {K:V→Prop} (T':V) (e:T.fzAt n=T') (h:K T'):FrzQ T n K:=⟨_,e,h⟩
theorem LendP.io {γ:Type} {o:Option (β×γ)} {k:β×γ→Option ρ} (rep:β→V) (rep2:γ→V) {vs vs':List V} {rs:List Nat} {f d j:Nat} {T:V} {K:V→V→Prop} (e:vs=vs')
  (hn : ∀b,Db rs (rep b)=true) (hn2 : ∀b,Db rs (rep2 b)=true∧(rep2 b).node=true) (hu : ∀u,upd [] T u=some u) (h:o.bind k=some v) (hr : ∀x,o=some x→Zi P f vs' (rep x.1) j (rep2 x.2))
  (hk : ∀b c,k (b,c)=some v→K (rep b) (rep2 c)):LendP P f d vs rs j [] T K:=by
 subst e
 obtain ⟨⟨b,c⟩,h1,h2⟩:=Option.bind_eq_some_iff.1 h
 exact ⟨_,_,_,hr _ h1,⟨hn b,(hn2 c).1,(hn2 c).2,hu _⟩,hk b c h2⟩
theorem CallQ.io {γ:Type} {o:Option (β×γ)} {k:β×γ→Option ρ} (rep:β→V) (rep2:γ→V) {vs vs':List V} {rs:List Nat} {f d j r:Nat} {p:List Nat} {T:V} (e:vs=vs') (hroots:rs.contains r=false)
  (hn : ∀b,Db rs (rep b)=true) (hn2 : ∀b,Db rs (rep2 b)=true∧(rep2 b).node=true) (hT:look σ r = .val T) (h:o.bind k=some v) (hr : ∀x,o=some x→Zi P f vs' (rep x.1) j (rep2 x.2))
  (hk : ∀b c,k (b,c)=some v→Kn p T (rep2 c) fun T'=>Bm (Aq d (.val (rep b)) (Gr r T' (p.length+1) σ)) K):CallQ P f d vs [(j,r,p)] rs K σ:=by
 subst e
 obtain ⟨⟨b,c⟩,h1,h2⟩:=Option.bind_eq_some_iff.1 h
 obtain ⟨T',h3,h4⟩:=Ew (hk b c h2)
 rw [Ar] at h4
 refine ⟨by simp only [G7,hroots];rfl,Tri.mono (hr _ h1) ?_⟩
 rintro res outs ⟨rfl,ho⟩
 refine ⟨hn b,?_⟩
 rw [ho,hT]
 exact ⟨(hn2 c).1,by rw [h3];show K (Aq d _ (Gr r T' (p.length+Kr (rep2 c)) σ));rw [Li (hn2 c).2];exact h4⟩
theorem CallQ.io2 {γ1 γ2:Type} {o:Option (β×γ1×γ2)} {k:β×γ1×γ2→Option ρ} (rep:β→V) (rep1:γ1→V) (rep2:γ2→V) {vs vs':List V} {rs:List Nat} {f d j1 j2 r1 r2:Nat} {p1 p2:List Nat} {T1 T2:V} (e:vs=vs')
  (hroots:G7 σ [(j1,r1,p1),(j2,r2,p2)] rs=true) (hne:Nat.beq r1 r2=false)
  (hn : ∀b,Db rs (rep b)=true) (hn1 : ∀b,Db rs (rep1 b)=true∧(rep1 b).node=true) (hn2 : ∀b,Db rs (rep2 b)=true∧(rep2 b).node=true) (hT1:look σ r1 = .val T1) (hT2:look σ r2 = .val T2)
  (h:o.bind k=some v) (hr : ∀x,o=some x→Akn P f vs' (rep x.1) j1 (rep1 x.2.1) j2 (rep2 x.2.2))
  (hk : ∀b c1 c2,k (b,c1,c2)=some v→Kn p1 T1 (rep1 c1) fun T1'=>Kn p2 T2 (rep2 c2) fun T2'=>Bm (Aq d (.val (rep b)) (Gr r2 T2' (p2.length+1) (Gr r1 T1' (p1.length+1) σ))) K) :
  CallQ P f d vs [(j1,r1,p1),(j2,r2,p2)] rs K σ:=by
 subst e
 obtain ⟨⟨b,c1,c2⟩,h1,h2⟩:=Option.bind_eq_some_iff.1 h
 obtain ⟨T1',h3,h4⟩:=Ew (hk b c1 c2 h2)
 obtain ⟨T2',h5,h6⟩:=Ew h4
 rw [Ar] at h6
 refine ⟨hroots,Tri.mono (hr _ h1) ?_⟩
 rintro res outs ⟨rfl,ho1,ho2⟩
 refine ⟨hn b,?_⟩
 rw [ho1,ho2]
 refine ⟨by simp only [(hn1 c1).1,(hn2 c2).1,Bool.and_self],?_⟩
 simp only [Anj,hne,hT1,hT2,h3,h5,Li (hn1 c1).2,Li (hn2 c2).2]
 exact h6
theorem CallT.io2 {γ1 γ2:Type} {o:Option (β×γ1×γ2)} {k:β×γ1×γ2→Option ρ} (rep:β→V) (rep1:γ1→V) (rep2:γ2→V) {vs vs':List V} {rs:List Nat} {f m j d j1 j2 r1 r2:Nat} {p1 p2:List Nat} {T1 T2:V} (e:vs=vs')
  (hroots:G7 σ [(j1,r1,p1),(j2,r2,p2)] rs=true) (hne:Nat.beq r1 r2=false)
  (hn : ∀b,Db rs (rep b)=true) (hn1 : ∀b,Db rs (rep1 b)=true∧(rep1 b).node=true) (hn2 : ∀b,Db rs (rep2 b)=true∧(rep2 b).node=true) (hT1:look σ r1 = .val T1) (hT2:look σ r2 = .val T2)
  (h:o.bind k=some v) (hr : ∀x,o=some x→Ajk P f m j vs' (rep x.1) j1 (rep1 x.2.1) j2 (rep2 x.2.2))
  (hk : ∀b c1 c2,k (b,c1,c2)=some v→Kn p1 T1 (rep1 c1) fun T1'=>Kn p2 T2 (rep2 c2) fun T2'=>Bm (Aq d (.val (rep b)) (Gr r2 T2' (p2.length+1) (Gr r1 T1' (p1.length+1) σ))) K) :
  CallT P f m j d vs [(j1,r1,p1),(j2,r2,p2)] rs K σ:=by
 subst e
 obtain ⟨⟨b,c1,c2⟩,h1,h2⟩:=Option.bind_eq_some_iff.1 h
 obtain ⟨T1',h3,h4⟩:=Ew (hk b c1 c2 h2)
 obtain ⟨T2',h5,h6⟩:=Ew h4
 rw [Ar] at h6
 refine ⟨hroots,Aje.mono (hr _ h1) ?_⟩
 rintro res outs ⟨rfl,ho1,ho2⟩
 refine ⟨hn b,?_⟩
 rw [ho1,ho2]
 refine ⟨by simp only [(hn1 c1).1,(hn2 c2).1,Bool.and_self],?_⟩
 simp only [Anj,hne,hT1,hT2,h3,h5,Li (hn1 c1).2,Li (hn2 c2).2]
 exact h6
theorem CallQ.give (rep:β→V) {vs vs':List V} {rs:List Nat} {f d j r:Nat} {p:List Nat} {T:V} (e:vs=vs') (hroots:rs.contains r=false)
  (hn : ∀b,Db rs (rep b)=true) (hT:look σ r = .val T) (h:oo.bind k=some v) (hr : ∀x,oo=some x→Zi P f vs' (rep x) j .dead)
  (hk : ∀b,k b=some v→Kn p T .dead fun T'=>Bm (Aq d (.val (rep b)) (Gr r T' p.length σ)) K):CallQ P f d vs [(j,r,p)] rs K σ:=by
 subst e
 obtain ⟨b,h1,h2⟩:=Option.bind_eq_some_iff.1 h
 obtain ⟨T',h3,h4⟩:=Ew (hk b h2)
 rw [Ar] at h4
 refine ⟨by simp only [G7,hroots];rfl,Tri.mono (hr _ h1) ?_⟩
 rintro res outs ⟨rfl,ho⟩
 refine ⟨hn b,?_⟩
 rw [ho,hT]
 exact ⟨by cases rs<;>rfl,by rw [h3];exact h4⟩
theorem LendQ.io {γ:Type} {o:Option (β×γ)} {k:β×γ→Option ρ} (rep:β→V) (rep2:γ→V) (cs:γ→List V) (fld:γ→V) {bs:List A} {vs vs':List V} {rs:List Nat} {f d j r:Nat} {p:List Nat} {T:V}
  (e:Are 0 bs.length vs=vs') (hc : ∀c,rep2 c = .agg (cs c)) (hf : ∀c,(cs c)[j]? = some (fld c)) (hroots:rs.contains r=false)
  (hn : ∀b,Db rs (rep b)=true) (hn2 : ∀b,Db rs (fld b)=true∧(fld b).node=true) (hT:look σ r = .val T) (h:o.bind k=some v) (hr : ∀x,o=some x→Zi P f vs' (rep x.1) 0 (rep2 x.2))
  (hk : ∀b c,k (b,c)=some v→Kn p T (fld c) fun T'=>Bm (Aq d (.val (rep b)) (Gr r T' (p.length+1) σ)) K):LendQ P f d 0 bs vs [(j,r,p)] rs K σ:=by
 subst e
 obtain ⟨⟨b,c⟩,h1,h2⟩:=Option.bind_eq_some_iff.1 h
 obtain ⟨T',h3,h4⟩:=Ew (hk b c h2)
 rw [Ar] at h4
 refine ⟨by simp only [G7,hroots];rfl,Tri.mono (hr _ h1) ?_⟩
 rintro res outs ⟨rfl,ho⟩
 cases outs with
 | nil=>cases ho
 | cons x o=>
   simp only [List.getElem?_cons_zero,Option.some.injEq] at ho
   subst ho
   have hj:(cs c++o)[j]? = some (fld c):=by
    have hlt:=(List.getElem?_eq_some_iff.1 (hf c)).1
    rw [List.getElem?_append_left hlt];exact hf c
   show Uw 0 _ _ (rep2 c::o)
   rw [hc c]
   refine ⟨hn b,?_⟩
   simp only [List.take_zero,List.nil_append]
   rw [hj,hT]
   exact ⟨(hn2 c).1,by rw [h3];show K (Aq d _ (Gr r T' (p.length+Kr (fld c)) σ));rw [Li (hn2 c).2];exact h4⟩
end
abbrev Tgt:=Ex×List Nat×St
def atQ (t:Tgt):Ex→St→Prop:=fun ex σ=>ex=t.1∧restrict t.2.1 σ=t.2.2
def Dl {σ' τ:Type} (ks:List Nat) (st:σ'→St) (tg:τ→Tgt):σ' ⊕ τ→Ex→St→Prop
 | .inl s=>atQ (.normal,ks,st s)
 | .inr t=>atQ (tg t)
def Ex.isNormal:Ex→Bool
 | .normal=>true
 | .exit _=>false
 | .ret=>false
theorem LoopQ.o {σ' τ ρ:Type} {body:σ'→Option (σ' ⊕ τ)} {k:τ→Option ρ} {v:ρ} {s0:σ'} {P:Program} {c:ACode} {Q:Ex→St→Prop} {σ:St} (ks:List Nat) (st:σ'→St) (tg:τ→Tgt)
  (h:(Al body s0).bind k=some v) (hb : ∀s o,body s=some o→vc P c (Dl ks st tg o) (st s)) (h0:restrict ks σ=st s0) (hn : ∀t,(tg t).1.isNormal=false) (ha : ∀t,k t=some v→Q (tg t).1 (tg t).2.2) :
  LoopQ P c Q σ:=by
 obtain ⟨t,h1,h2⟩:=Option.bind_eq_some_iff.1 h
 obtain ⟨n,hit⟩:=Mm.1 h1
 refine ⟨ks,n,?_⟩
 rw [h0]
 clear h0 h h1
 induction n generalizing s0 with
 | zero=>cases hit
 | succ n ih=>
   simp only [Agd] at hit
   split at hit
   ·cases hit
   ·rename_i s' e
    refine Rd ?_ (Uk (hb _ _ e))
    rintro ex τ' ⟨h3,h4⟩
    subst h3
    show Aac (awp P c) ks (less Q) n (restrict ks τ')
    rw [h4]
    exact ih hit
   ·rename_i t' e
    cases hit
    refine Rd ?_ (Uk (hb _ _ e))
    rintro ex τ' ⟨h3,h4⟩
    have hne:=hn t
    rw [←h3] at hne
    have hq:=ha t h2
    rw [←h4,←h3] at hq
    cases ex with
    | normal=>cases hne
    | exit i=>exact .inr ⟨_,hq⟩
    | ret=>exact .inr ⟨_,hq⟩
theorem CutQ.o {τ ρ:Type} {e:Option τ} {k:τ→Option ρ} {v:ρ} {P:Program} {c:ACode} {Q:Ex→St→Prop} {σ:St} (tg:τ→Tgt)
  (h:e.bind k=some v) (hb : ∀t,e=some t→vc P c (atQ (tg t)) σ) (ha : ∀t,k t=some v→Q (tg t).1 (tg t).2.2):CutQ P c Q σ:=by
 obtain ⟨t,h1,h2⟩:=Option.bind_eq_some_iff.1 h
 refine ⟨?_⟩
 show awp P c (less Q) σ
 refine Rd ?_ (Uk (hb t h1))
 rintro ex τ' ⟨h3,h4⟩
 have hq:=ha t h2
 rw [←h4,←h3] at hq
 exact .inr ⟨_,hq⟩
end Go.Proofs.YtjcekpmojnnmbaaGreat.Ax
