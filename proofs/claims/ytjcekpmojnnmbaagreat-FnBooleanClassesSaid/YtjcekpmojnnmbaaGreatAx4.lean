/-
 Part of the proof; see the last text of the claim.
-/
import Derived.Test.YtjcekpmojnnmbaaGreatAx3
namespace Go.Proofs.YtjcekpmojnnmbaaGreat.Ax
open Go
structure Br (b:Bool) (X Y:Prop):Prop where
 t:b=true→X
 f:b=false→Y
structure Ask (p X:Prop):Prop where
 p:p
 x:X
structure Elem (xs:List V) (j:Nat) (K:V→Prop):Prop where
 h:K (xs.getD j .dead)
structure Cells (xs:List V) (c n:Nat) (K:List V→Prop):Prop where
 h : ∃us,c+n≤xs.length∧(xs.drop c).take n=us∧K us
structure Kid (T:V) (c:Nat) (K:V→Prop):Prop where
 h : ∃k,T.stepOk=true∧T.kids[c]? = some k∧K k
structure SetKids (x:V) (c:Nat) (us:List V) (K:V→Prop):Prop where
 h : ∃x',x.setKids c us=some x'∧K x'
structure MkQ (d n:Nat) (z:V) (K:List V→Prop):Prop where
 h:K (List.replicate n z)
structure BslQ (d m:Nat) (us:List V) (K:List V→Prop):Prop where
 h:Og m us=true∧K us
structure AppQ (d:Nat) (xs ys:List V) (K:List V→Prop):Prop where
 h:C5 (Bg ys)=true∧xs.length+ys.length≤LIM∧K (xs++ys)
structure NoOwn (ys:List V) (X Y:Prop):Prop where
 h:(A9 (Bg ys)=false∧X)∨(A9 (Bg ys)=true∧Y)
structure SlcQ (xs:List V) (l h:Int) (K:List V→Prop):Prop where
 h:0≤l∧l≤h∧h≤(xs.length:Int)∧K ((xs.drop l.toNat).take (h.toNat-l.toNat))
structure Idx (j:Int) (lo n:Nat) (K:Int→Prop):Prop where
 h:lo≤j→j<n→K j
def Be:Nat→Nat→Nat
 | x,0=>x*0
 | x,1=>x
 | x,m+2=>x*(m+2)
theorem Aa (x:Nat):Be x 1=x:=rfl
theorem Ss (x m:Nat):Be x m=x*m:=by
 unfold Be;split<;>simp
def A1x (a b:Int):Int:=IntKind.i64.wrap (a*2^(min b.toNat IntKind.i64.bits))
def A2d (a b:Int):Int:=a.fdiv (2^(min b.toNat IntKind.i64.bits))
def A2a (a b:Int):Int:=IntKind.i64.wrap (BitVec.ofInt IntKind.i64.bits a &&& BitVec.ofInt IntKind.i64.bits b).toNat
def orI (a b:Int):Int:=IntKind.i64.wrap (BitVec.ofInt IntKind.i64.bits a ||| BitVec.ofInt IntKind.i64.bits b).toNat
def Ay9 (a b:Int):Int:=IntKind.i64.wrap (BitVec.ofInt IntKind.i64.bits a ^^^ BitVec.ofInt IntKind.i64.bits b).toNat
def Aw3 (a b:Int):Int:=IntKind.i64.wrap (BitVec.ofInt IntKind.i64.bits a &&& ~~~BitVec.ofInt IntKind.i64.bits b).toNat
theorem Br.not {b:Bool} {X Y:Prop} (h:Br b Y X):Br (!b) X Y:=by
 cases b
 ·exact ⟨fun _=>h.f rfl,fun e=>Bool.noConfusion e⟩
 exact ⟨fun e=>Bool.noConfusion e,fun _=>h.t rfl⟩
theorem Br.beq {a b:Int} {X Y:Prop} (h1:a=b→X) (h2:a≠b→Y):Br (a==b) X Y:=⟨fun h=>h1 (by simpa using h),fun h=>h2 (by simpa using h)⟩
structure Len (xs:List V) (K:Nat→Prop):Prop where
 h:K xs.length
theorem Len.map {α:Type} {f:α→V} {xs:List α} {K:Nat→Prop} (h:K xs.length):Len (xs.map f) K:=⟨by rw [List.length_map];exact h⟩
theorem Len.app {xs ys:List V} {K:Nat→Prop} (h:K (xs.length+ys.length)):Len (xs++ys) K:=⟨by rw [List.length_append];exact h⟩
theorem Br.yes {X Y:Prop} (h:X):Br true X Y:=⟨fun _=>h,fun e=>Bool.noConfusion e⟩
theorem Br.no {X Y:Prop} (h:Y):Br false X Y:=⟨fun e=>Bool.noConfusion e,fun _=>h⟩
mutual
def Qv:A→(A→Prop)→Prop
 | .top,K=>K .top
 | .val v,K=>K (.val v)
 | .ref r p,K=>K (.ref r p)
 | .addr r p c,K=>K (.addr r p c)
 | .fad cs,K=>K (.fad cs)
 | .agg as,K=>Aa0 as fun bs=>K (.agg bs)
 | .clo f as,K=>Aa0 as fun bs=>K (.clo f bs)
 | .tie b f p q,K=>Aa0 p fun ps=>Aa0 q fun qs=>K (.tie b f ps qs)
def Aa0:List A→(List A→Prop)→Prop
 | [],K=>K []
 | a::r,K=>Qv a fun b=>Aa0 r fun s=>K (b::s)
end
mutual
theorem M3:(a:A)→(K:A→Prop)→Qv a K=K a
 | .top,_=>rfl
 | .val _,_=>rfl
 | .ref _ _,_=>rfl
 | .addr _ _ _,_=>rfl
 | .fad _,_=>rfl
 | .agg as,K=>by simp only [Qv];rw [T5 as]
 | .clo f as,K=>by simp only [Qv];rw [T5 as]
 | .tie b f p q,K=>by simp only [Qv];rw [T5 p,T5 q]
theorem T5:(as:List A)→(K:List A→Prop)→Aa0 as K=K as
 | [],_=>rfl
 | a::r,K=>by simp only [Aa0];rw [M3 a,T5 r]
end
def Bt:St→(St→Prop)→Prop
 | [],K=>K []
 | (k,a)::r,K=>Qv a fun b=>Bt r fun s=>K ((k,b)::s)
theorem Az : ∀(σ:St) (K:St→Prop),Bt σ K=K σ:=by
 intro σ
 induction σ with
 | nil=>intro K;rfl
 | cons e r ih=>intro K;obtain ⟨k,a⟩:=e;simp only [Bt];rw [M3,ih]
def Ahu (o:Option St) (K:St→Prop):Prop:=match o with
 | some σ=>Bt σ K
 | none=>False
theorem X3 {o:Option St} {K:St→Prop} (h:Ahu o K) : ∃σ,o=some σ∧K σ:=by
 unfold Ahu at h
 split at h
 ·rw [Az] at h;exact ⟨_,rfl,h⟩
 exact h.elim
def Lr (s:Nat) (b:Bool):St→St
 | []=>[]
 | (k,a)::r=>match Nat.beq k s with
   | true=>(k,.val (.bool b))::r
   | false=>(k,a)::Lr s b r
theorem Pw {s:Nat} {b:Bool} : ∀ {σ:St},look σ s = .val (.bool b)→Lr s b σ=σ:=by
 intro σ
 induction σ with
 | nil=>intro _;rfl
 | cons e r ih=>
   obtain ⟨k,a⟩:=e
   intro h
   simp only [look] at h
   simp only [Lr]
   by_cases hk:k=s
   ·rw [if_pos hk] at h
    subst hk
    rw [show Nat.beq k k=true by simp,h]
   ·rw [if_neg hk] at h
    rw [show Nat.beq k s=false by
     cases hb:Nat.beq k s with
     | false=>rfl
     | true=>exact absurd (Nat.eq_of_beq_eq_true hb) hk]
    simp only [ih h]
def A2r (x:X) (b:Bool) (σ:St):St:=match x with
 | .t s=>Lr s b σ
 | .c _=>σ
def Amn:List Nat→V→(V→Prop)→Prop
 | [],T,K=>K T
 | c::p,T,K=>Kid T c fun k=>Amn p k K
theorem Vj : ∀ {p:List Nat} {T:V} {K:V→Prop},Amn p T K → ∃u,sub p T=some u∧K u:=by
 intro p
 induction p with
 | nil=>intro T K h;exact ⟨T,rfl,h⟩
 | cons c p ih=>
   intro T K h
   obtain ⟨k,h1,h2,h3⟩:=h.h
   obtain ⟨u,h4,h5⟩:=ih h3
   exact ⟨u,by simp only [sub,h1,h2,if_true,h4],h5⟩
def Xy (T:A) (p:List Nat) (K:V→Prop):Prop:=match T with
 | .val V=>Amn p V K
 | _=>False
def R6:List Nat→V→V→(V→Prop)→Prop
 | [],_,u,K=>K u
 | c::p,T,u,K=>Kid T c fun k=>R6 p k u fun k'=>SetKids T c [k'] K
theorem Jm : ∀ {p:List Nat} {T u:V} {K:V→Prop},R6 p T u K → ∃T',upd p T u=some T'∧K T':=by
 intro p
 induction p with
 | nil=>intro T u K h;exact ⟨u,rfl,h⟩
 | cons c p ih=>
   intro T u K h
   obtain ⟨k,h1,h2,h3⟩:=h.h
   obtain ⟨k',h4,h5⟩:=ih h3
   obtain ⟨T',h6,h7⟩:=h5.h
   exact ⟨T',by simp only [upd,h2,h4,h6],h7⟩
theorem He {σ:St} {r:Nat} {p:List Nat} {K:V→Prop} (h:Xy (look σ r) p K) : ∃T u,look σ r = .val T∧sub p T=some u∧Bm σ r p=some u∧K u:=by
 unfold Xy at h
 split at h
 ·rename_i T hT
  obtain ⟨u,h1,h2⟩:=Vj h
  exact ⟨T,u,hT,h1,by simp [Bm,hT,h1],h2⟩
 exact h.elim
def Aes (a b:A) (K:Int→Int→Prop) (E:Prop):Prop:=match a,b with
 | .val (.int .i64 x),.val (.int .i64 y)=>K x y
 | _,_=>E
abbrev InI (n:Int):Prop:= -9223372036854775808≤n∧n≤9223372036854775807
theorem Avy {a b:A} {K:Int→Int→Prop} {E:Prop} (h:Aes a b K E):(∃x y,a = .val (.int .i64 x)∧b = .val (.int .i64 y)∧K x y)∨E:=by
 unfold Aes at h
 split at h
 ·exact .inl ⟨_,_,rfl,rfl,h⟩
 exact .inr h
def Hj (o:Option (Nat×A)) (K:Nat→A→Prop):Prop:=match o with
 | some (d,a)=>Qv a fun b=>K d b
 | none=>False
theorem Ir {o:Option (Nat×A)} {K:Nat→A→Prop} (h:Hj o K) : ∃d a,o=some (d,a)∧K d a:=by
 unfold Hj at h
 split at h
 ·rw [M3] at h;exact ⟨_,_,rfl,h⟩
 exact h.elim
def A32 (d:Nat) (xs:List V) (K:Nat→A→Prop):Prop:=Len xs fun n=>K d (.val (.int .i64 n))
def A1h (d m m':Nat) (xs:List V) (j:Int) (own:Option (Nat×List Nat)) (K:Nat→A→Prop):Prop:=match Nat.beq m' m with
 | true=>Len xs fun n=>Ask (0≤j∧j<n) (match own with
   | none=>Elem xs j.toNat fun u=>K d (.fad u.cells)
   | some (r,p)=>K d (.addr r p (Be j.toNat m)))
 | false=>False
structure LkQ (es:List (ByteArray×Lf)) (s:ByteArray) (z:Lf) (ok:Bool) (K:V→Prop):Prop where
 h:K (Asa es s z ok)
structure MsQ (es:List (ByteArray×Lf)) (s:ByteArray) (x:Lf) (K:List (ByteArray×Lf)→Prop):Prop where
 h:K (Lx es s x)
structure BsQ (xs:List V) (K:ByteArray→Prop):Prop where
 h : ∃ns,Oz xs=some ns∧K (Wq ns)
def Atu (d m:Nat) (xs:List V) (K:Nat→A→Prop):Prop:=match Nat.beq m 1 with
 | true=>BsQ xs fun s=>K d (.val (.str s))
 | false=>False
structure FrzQ (T:V) (n:Nat) (K:V→Prop):Prop where
 h : ∃T',T.fzAt n=T'∧K T'
def Af0 (o:AOp) (σ:St) (K:Nat→A→Prop):Prop:=match o with
 | .mlk d x k z ok=>match Ag σ x,Ag σ k with
   | .val (.mp o es),.val (.str s)=>(match o with
     | false=>LkQ es s z ok fun v=>K d (.val v)
     | true=>False)
   | .ref r p,.val (.str s)=>Xy (look σ r) p fun u=>match u with
     | .mp _ es=>LkQ es s z ok fun v=>K d (.val v)
     | _=>False
   | _,_=>False
 | .bstr d x=>match Ag σ x with
   | .val (.sl o m xs)=>(match o with
     | false=>Atu d m xs K
     | true=>False)
   | .ref r p=>Xy (look σ r) p fun u=>match u with
     | .sl _ m xs=>Atu d m xs K
     | _=>False
   | _=>False
 | .bin d op x y=>match op with
   | .add=>Aes (Ag σ x) (Ag σ y) (fun a b=>Ask (InI (a+b)) (K d (.val (.int .i64 (a+b))))) (Hj (qR o σ) K)
   | .sub=>Aes (Ag σ x) (Ag σ y) (fun a b=>Ask (InI (a-b)) (K d (.val (.int .i64 (a-b))))) (Hj (qR o σ) K)
   | .mul=>Aes (Ag σ x) (Ag σ y) (fun a b=>Ask (InI (a*b)) (K d (.val (.int .i64 (a*b))))) (Hj (qR o σ) K)
   | .quo=>Aes (Ag σ x) (Ag σ y) (fun a b=>Ask (b≠0∧InI (a.tdiv b)) (K d (.val (.int .i64 (a.tdiv b))))) (Hj (qR o σ) K)
   | .rem=>Aes (Ag σ x) (Ag σ y) (fun a b=>Ask (b≠0) (K d (.val (.int .i64 (a.tmod b))))) (Hj (qR o σ) K)
   | .shl=>Aes (Ag σ x) (Ag σ y) (fun a b=>Ask (0≤b) (K d (.val (.int .i64 (A1x a b))))) (Hj (qR o σ) K)
   | .shr=>Aes (Ag σ x) (Ag σ y) (fun a b=>Ask (0≤b) (K d (.val (.int .i64 (A2d a b))))) (Hj (qR o σ) K)
   | .and=>Aes (Ag σ x) (Ag σ y) (fun a b=>K d (.val (.int .i64 (A2a a b)))) (Hj (qR o σ) K)
   | .or=>Aes (Ag σ x) (Ag σ y) (fun a b=>K d (.val (.int .i64 (orI a b)))) (Hj (qR o σ) K)
   | .xor=>Aes (Ag σ x) (Ag σ y) (fun a b=>K d (.val (.int .i64 (Ay9 a b)))) (Hj (qR o σ) K)
   | .andNot=>Aes (Ag σ x) (Ag σ y) (fun a b=>K d (.val (.int .i64 (Aw3 a b)))) (Hj (qR o σ) K)
   | _=>Hj (qR o σ) K
 | .pick d c x y=>match Ag σ c with
   | .val (.bool b)=>Br b (Hj ((nt (Ag σ x)).map (d,·)) K) (Hj ((nt (Ag σ y)).map (d,·)) K)
   | _=>False
 | .iad d m x i=>match Ag σ x,Ag σ i with
   | .val (.sl _ m' xs),.val (.int _ j)=>A1h d m m' xs j none K
   | .ref r p,.val (.int _ j)=>Xy (look σ r) p fun u=>match u with
     | .sl o m' xs=>match o with
       | true=>A1h d m m' xs j (some (r,p)) K
       | false=>False
     | _=>False
   | _,_=>False
 | .aad d m n x i=>match Fa σ (Ag σ x),Ag σ i with
   | some l,.val (.int _ j)=>Ask (0≤j∧j<n) (Idx j 0 n fun j=>Qv (Aej (Be j.toNat m) l) fun b=>K d b)
   | _,_=>False
 | .ld d n ag x=>match Fa σ (Ag σ x) with
   | some (.own r p c)=>Xy (look σ r) p fun u=>Cells u.kids c n fun ks=>Qv (mkA ag (Aab r p c ks)) fun b=>K d b
   | _=>Hj (qR o σ) K
 | .mk d m z x=>match Ag σ x with
   | .val (.int _ n)=>Ask (0≤n∧n≤(LIM:Int)) (MkQ d n.toNat z.up fun l=>K d (.val (.sl true m l)))
   | _=>False
 | .mkc d m _ x=>match Ag σ x with
   | .val (.int _ n)=>Ask (0≤n∧n≤(LIM:Int)) (K d (.val (.sl true m [])))
   | _=>False
 | .bsl d m ps=>match H8 (ps.map (Ag σ)) with
   | some Us=>BslQ d m (upL Us) fun l=>K d (.val (.sl true m l))
   | none=>False
 | .mkr d m z x=>match Ag σ x with
   | .val (.int _ n)=>Ask (0≤n∧n≤(LIM:Int)) (MkQ d n.toNat z.up fun l=>FrzQ (.sl true m l) 0 fun T'=>K d (.val T'))
   | _=>False
 | .bslr d m ps=>match H8 (ps.map (Ag σ)) with
   | some Us=>BslQ d m (upL Us) fun l=>FrzQ (.sl true m l) 0 fun T'=>K d (.val T')
   | none=>False
 | .slc d m x lo hi=>match Ag σ x with
   | .val (.ptr o (.agg cs))=>(match o with
     | true=>False
     | false=>(match Ap5 m cs (lo.map (Ag σ)) (hi.map (Ag σ)) with
       | true=>K d (.val (.sl false 1 cs))
       | false=>False))
   | .val (.sl o m' xs)=>(match o with
     | true=>False
     | false=>(match Nat.beq m' m with
       | true=>(match Abq 0 (lo.map (Ag σ)) with
         | some l=>(match hi with
           | none=>Len xs fun n=>SlcQ xs l n fun ys=>K d (.val (.sl false m ys))
           | some y=>(match Anx (Ag σ y) with
             | some h=>SlcQ xs l h fun ys=>K d (.val (.sl false m ys))
             | none=>False))
         | none=>False)
       | false=>False))
   | _=>False
 | .len d x=>match Ag σ x with
   | .val (.sl _ _ xs)=>A32 d xs K
   | .ref r p=>Xy (look σ r) p fun u=>match u with
     | .sl _ _ xs=>A32 d xs K
     | _=>False
   | _=>Hj (qR o σ) K
 | .sidx d x i=>(match Ag σ x,Ag σ i with
   | .val (.str s),.val (.int _ j)=>Ask (0≤j∧j<(s.size:Int)) (K d (.val (.int .u8 (Atr s j))))
   | _,_=>False)
 | o=>Hj (qR o σ) K
theorem Ami {d m m':Nat} {xs:List V} {j:Int} {own:Option (Nat×List Nat)} {K:Nat→A→Prop} (h:A1h d m m' xs j own K):m'=m∧0≤j∧j<xs.length∧(match own with
  | none=>K d (.fad (xs.getD j.toNat .dead).cells)
  | some (r,p)=>K d (.addr r p (j.toNat*m))):=by
 unfold A1h at h
 split at h
 ·rename_i hm
  have h1:=h.h
  refine ⟨Nat.eq_of_beq_eq_true hm,h1.p.1,h1.p.2,?_⟩
  cases own with
  | none=>exact h1.x.h
  | some e=>have:=h1.x;simpa [Ss] using this
 exact h.elim
theorem Ai1 {d m:Nat} {xs:List V} {K:Nat→A→Prop} (h:Atu d m xs K) : ∃ns,m=1∧Oz xs=some ns∧K d (.val (.str (Wq ns))):=by
 unfold Atu at h
 split at h
 ·rename_i hm
  obtain ⟨ns,h1,h2⟩:=h.h
  exact ⟨ns,Nat.eq_of_beq_eq_true hm,h1,h2⟩
 exact h.elim
theorem Rv {o:AOp} {σ:St} {K:Nat→A→Prop} (h:Af0 o σ K) : ∃d a,qR o σ=some (d,a)∧K d a:=by
 unfold Af0 at h
 split at h
 ·rename_i d x k z ok
  split at h
  ·rename_i o es s hx hk
   split at h
   ·exact ⟨_,_,by simp [qR,hx,hk,mpA,Dr,Aq6],h.h⟩
   exact h.elim
  ·rename_i r p s hx hk
   obtain ⟨T,u,hT,hs,hn,hq⟩:=He h
   split at hq
   ·exact ⟨_,_,by simp [qR,hx,hk,mpA,hn,Dr,Aq6],hq.h⟩
   exact hq.elim
  exact h.elim
 ·rename_i d x
  split at h
  ·rename_i o m xs hx
   split at h
   ·obtain ⟨ns,h1,h2,h3⟩:=Ai1 h
    subst h1
    exact ⟨_,_,by simp [qR,hx,slA,h2],h3⟩
   exact h.elim
  ·rename_i r p hx
   obtain ⟨T,u,hT,hs,hn,hq⟩:=He h
   split at hq
   ·obtain ⟨ns,h1,h2,h3⟩:=Ai1 hq
    subst h1
    exact ⟨_,_,by simp [qR,hx,slA,hn,h2],h3⟩
   exact hq.elim
  exact h.elim
 ·rename_i d op x y
  split at h
  case h_12=>exact Ir h
  all_goals
   rcases Avy h with ⟨a,b,ha,hb,hk⟩ | h
   case inr=>exact Ir h
  ·exact ⟨_,_,by simp [qR,ha,hb,Dr,V.isBool,Rd,Y8 hk.p.1 hk.p.2],hk.x⟩
  ·exact ⟨_,_,by simp [qR,ha,hb,Dr,V.isBool,Rd,Y8 hk.p.1 hk.p.2],hk.x⟩
  ·exact ⟨_,_,by simp [qR,ha,hb,Dr,V.isBool,Rd,Y8 hk.p.1 hk.p.2],hk.x⟩
  ·exact ⟨_,_,by simp [qR,ha,hb,Dr,V.isBool,Rd,hk.p.1,Y8 hk.p.2.1 hk.p.2.2],hk.x⟩
  ·exact ⟨_,_,by simp [qR,ha,hb,Dr,V.isBool,Rd,hk.p],hk.x⟩
  ·exact ⟨d,.val (.int .i64 (A1x a b)),by simp [qR,ha,hb,Dr,V.isBool,Rd,Int.not_lt.2 hk.p,A1x],hk.x⟩
  ·exact ⟨d,.val (.int .i64 (A2d a b)),by simp [qR,ha,hb,Dr,V.isBool,Rd,Int.not_lt.2 hk.p,A2d],hk.x⟩
  ·exact ⟨d,.val (.int .i64 (A2a a b)),by simp [qR,ha,hb,Dr,V.isBool,Rd,A2a],hk⟩
  ·exact ⟨d,.val (.int .i64 (orI a b)),by simp [qR,ha,hb,Dr,V.isBool,Rd,orI],hk⟩
  ·exact ⟨d,.val (.int .i64 (Ay9 a b)),by simp [qR,ha,hb,Dr,V.isBool,Rd,Ay9],hk⟩
  exact ⟨d,.val (.int .i64 (Aw3 a b)),by simp [qR,ha,hb,Dr,V.isBool,Rd,Aw3],hk⟩
 ·rename_i d c x y
  split at h
  ·rename_i b hb
   cases b
   ·obtain ⟨d',a,h1,h2⟩:=Ir (h.f rfl)
    exact ⟨d',a,by simp only [qR,hb];simpa using h1,h2⟩
   obtain ⟨d',a,h1,h2⟩:=Ir (h.t rfl)
   exact ⟨d',a,by simp only [qR,hb];simpa using h1,h2⟩
  exact h.elim
 ·rename_i d m x i
  split at h
  ·rename_i hx hi
   obtain ⟨h1,h2,h3,h4⟩:=Ami h
   subst h1
   exact ⟨_,_,by simp only [qR,hx,hi,h2,h3,and_self,if_true],h4⟩
  ·rename_i hx hi
   obtain ⟨T,u,hT,hs,hn,hk⟩:=He h
   split at hk
   case h_2=>exact hk.elim
   split at hk
   case h_2=>exact hk.elim
   obtain ⟨h1,h2,h3,h4⟩:=Ami hk
   subst h1
   exact ⟨_,_,by simp only [qR,hx,hi,hn,h2,h3,and_self,if_true],h4⟩
  exact h.elim
 ·rename_i d m n x i
  split at h
  ·rename_i hl hi
   have h2:=h.x.h h.p.1 h.p.2
   rw [M3,Ss] at h2
   exact ⟨_,_,by simp only [qR,hl,hi,h.p.1,h.p.2,and_self,if_true],h2⟩
  exact h.elim
 ·rename_i d n ag x
  split at h
  ·rename_i r p c hl
   obtain ⟨T,u,hT,hs,hn,hk⟩:=He h
   obtain ⟨ks,h1,h2,h3⟩:=hk.h
   rw [M3] at h3
   subst h2
   exact ⟨_,_,by simp [qR,hl,Yq,hn,h1],h3⟩
  exact Ir h
 ·rename_i d m z x
  split at h
  ·rename_i hx
   exact ⟨_,_,by simp [qR,hx,h.p.1,h.p.2],h.x.h⟩
  exact h.elim
 ·rename_i d m z x
  split at h
  ·rename_i hx
   exact ⟨_,_,by simp [qR,hx,h.p.1,h.p.2],h.x⟩
  exact h.elim
 ·rename_i d m ps
  split at h
  ·rename_i Us hU
   exact ⟨_,_,by simp [qR,hU,h.h.1],h.h.2⟩
  exact h.elim
 ·rename_i d m z x
  split at h
  ·rename_i hx
   obtain ⟨T',e1,h1⟩:=h.x.h.h
   rw [Am] at e1
   subst e1
   exact ⟨_,_,by simp [qR,hx,h.p.1,h.p.2],h1⟩
  exact h.elim
 ·rename_i d m ps
  split at h
  ·rename_i Us hU
   obtain ⟨T',e1,h1⟩:=h.h.2.h
   rw [Am] at e1
   subst e1
   exact ⟨_,_,by simp [qR,hU,h.h.1],h1⟩
  exact h.elim
 ·rename_i d m x lo hi
  split at h
  case h_3=>exact h.elim
  case h_1=>
   rename_i o cs hx
   split at h
   ·exact h.elim
   ·split at h
    case h_2=>exact h.elim
    rename_i hao
    exact ⟨_,_,by simp only [qR,Ait,hx];rw [if_pos hao];rfl,h⟩
  rename_i o m' xs hx
  split at h
  ·exact h.elim
  split at h
  case h_2=>exact h.elim
  rename_i hm
  have hm':=Nat.eq_of_beq_eq_true hm
  split at h
  case h_2=>exact h.elim
  rename_i l hl
  split at h
  ·obtain ⟨h0,h1,h2,h3⟩:=h.h.h
   have e2:Abq (xs.length:Int) ((none:Option X).map (Ag σ))=some (xs.length:Int):=rfl
   exact ⟨_,_,by simp only [qR,Ait,hx,hl,e2];rw [if_pos ⟨hm',h0,h1,h2⟩];rfl,h3⟩
  rename_i y
  split at h
  case h_2=>exact h.elim
  rename_i hh hy
  obtain ⟨h0,h1,h2,h3⟩:=h.h
  have e2:Abq (xs.length:Int) ((some y).map (Ag σ))=some hh:=hy
  exact ⟨_,_,by simp only [qR,Ait,hx,hl,e2];rw [if_pos ⟨hm',h0,h1,h2⟩];rfl,h3⟩
 ·rename_i d x
  split at h
  ·rename_i hx
   exact ⟨_,_,by simp [qR,hx,Afs],h.h⟩
  ·rename_i hx
   obtain ⟨T,u,hT,hs,hn,hk⟩:=He h
   split at hk
   case h_2=>exact hk.elim
   exact ⟨_,_,by simp [qR,hx,Afs,hn],hk.h⟩
  exact Ir h
 ·rename_i d x i
  split at h
  case h_2=>exact h.elim
  rename_i hx hi
  exact ⟨_,_,by simp only [qR,hx,hi];rw [if_pos h.p],h.x⟩
 exact Ir h
def yK (σ:St) (m:Nat) (y:A) (K:List V→St→Prop):Prop:=match y with
 | .val (.sl _ m' ys)=>match Nat.beq m' m with
   | true=>K ys σ
   | false=>False
 | .val (.nilsl _)=>K [] σ
 | .ref r p=>Xy (look σ r) p fun u=>match u with
   | .sl o m' ys=>match o with
     | true=>match Nat.beq m' m with
       | true=>NoOwn ys (K ys σ) (match G6 σ (.ref r p) with
         | some (_,σ1)=>K ys σ1
         | none=>False)
       | false=>False
     | false=>False
   | _=>False
 | _=>False
theorem Auv {σ:St} {m:Nat} {y:A} {K:List V→St→Prop} (h:yK σ m y K) : ∃ys σ1,yS σ m y=some (ys,σ1)∧K ys σ1:=by
 unfold yK at h
 split at h
 ·split at h
  ·rename_i hm
   exact ⟨_,_,by simp [yS,Nat.eq_of_beq_eq_true hm],h⟩
  exact h.elim
 ·exact ⟨_,_,by simp [yS],h⟩
 ·obtain ⟨T,u,hT,hs,hn,hk⟩:=He h
  split at hk
  case h_2=>exact hk.elim
  split at hk
  case h_2=>exact hk.elim
  split at hk
  case h_2=>exact hk.elim
  rename_i hm
  have hm':=Nat.eq_of_beq_eq_true hm
  rcases hk.h with ⟨h1,h2⟩ | ⟨h1,h2⟩
  ·exact ⟨_,_,by simp [yS,hn,hm',h1],h2⟩
  split at h2
  ·rename_i U σ1 ht
   exact ⟨_,_,by simp [yS,hn,hm',h1,ht],h2⟩
  exact h2.elim
 exact h.elim
def A27:AOp→Bool
 | .mov .. => true
 | .pick .. => true
 | .bin .. => true
 | .binb .. => true
 | .un .. => true
 | .cnv .. => true
 | .len .. => true
 | .ext .. => true
 | .iad .. => true
 | .aad .. => true
 | .fadr .. => true
 | .ld .. => true
 | .nck .. => true
 | .mk .. => true
 | .mkc .. => true
 | .mkr .. => true
 | .bslr .. => true
 | .alc .. => true
 | .mkf .. => true
 | .slc .. => true
 | .sidx .. => true
 | .mkm .. => true
 | .mlk .. => true
 | .bstr .. => true
 | _=>false
def A1t {α:Type} (f:α→V) (l:List α) (i:Nat):List V:=(l.map f).set i .dead
def holeW {α:Type} (f:α→V) (l:List α) (i:Nat) (v:V):List V:=(l.map f).set i v
def Afd (σ:St) (a:A) (K:V→St→Prop):Prop:=match a with
 | .ref r (c::p)=>(match look σ r with
   | .val T=>Amn (c::p) T fun u=>R6 (c::p) T .dead fun T'=>K u (turnP r T' (c::p) σ)
   | _=>False)
 | a=>match I8 σ a with
   | some (v,σ')=>K v σ'
   | none=>False
theorem Ri {σ:St} {a:A} {K:V→St→Prop} (h:Afd σ a K) : ∃v σ',I8 σ a=some (v,σ')∧K v σ':=by
 unfold Afd at h
 split at h
 ·rename_i r c p
  split at h
  case h_2=>exact h.elim
  rename_i T hT
  obtain ⟨u,h1,h2⟩:=Vj h
  obtain ⟨T',h3,h4⟩:=Jm h2
  exact ⟨u,_,by simp only [I8,G6,hT,h1,h3],h4⟩
 split at h
 ·exact ⟨_,_,by assumption,h⟩
 exact h.elim
def Axf (o:AOp) (σ:St) (K:St→Prop):Prop:=match o with
 | .mup m k v=>match Ag σ m,Ag σ k,Ag σ v with
   | .ref r p,.val (.str s),.val u=>match vLf u with
     | some x=>match look σ r with
       | .val T=>Amn p T fun nd=>match nd with
         | .mp o es=>(match o with
           | true=>MsQ es s x fun es'=>R6 p T (.mp true es') fun T'=>Bt (Hp r T' (p.length+1) σ) K
           | false=>False)
         | _=>False
       | _=>False
     | none=>False
   | _,_,_=>False
 | .bsl d m ps=>match Nf σ (ps.map (Ag σ)) with
   | some (Us,σ1)=>BslQ d m Us fun l=>Bt (At d (.val (.sl true m l)) σ1) K
   | none=>False
 | .app d m x y=>yK σ m (Ag σ y) fun ys σ1=>Afd σ1 (Ag σ1 x) fun v σ2=>match v with
   | .sl o m' xs=>(match o with
     | true=>(match Nat.beq m' m with
       | true=>AppQ d xs ys fun l=>Bt (At d (.val (.sl true m l)) σ2) K
       | false=>False)
     | false=>False)
   | _=>False
 | .slt d m x hi=>match Anx (Ag σ hi) with
   | some h=>Afd σ (Ag σ x) fun v σ2=>match v with
     | .sl o m' xs=>(match o with
       | true=>(match Nat.beq m' m with
         | true=>SlcQ xs 0 h fun ys=>Bt (At d (.val (.sl true m ys)) σ2) K
         | false=>False)
       | false=>False)
     | _=>False
   | none=>False
 | .idx d m n ag x i=>match Ag σ i with
   | .val (.int k j)=>Ask (0≤j∧j<n) (Idx j 0 n fun j=>Ahu (if An4 σ (Ag σ x) then A0j d m n ag (Ag σ x) (.val (.int k j)) σ else none) K)
   | _=>False
 | .st n x v=>match I8 σ (Ag σ v) with
   | some (U,σ1)=>match Fa σ1 (Ag σ1 x) with
     | some (.own r p c)=>match look σ1 r with
       | .val T=>Amn p T fun nd=>match nd.node&&decide (U.cells.length=n)&&C5 U.cells with
         | true=>SetKids nd c U.cells fun nd'=>R6 p T nd' fun T'=>Bt (Hp r T' (p.length+1) σ1) K
         | false=>False
       | _=>False
     | _=>False
   | none=>False
 | .nilq d neg x=>match Ag σ x with
   | .val (.sl o _ xs)=>(match o with
     | true=>False
     | false=>Len xs fun n=>Ask ((0:Int)<(n:Int)) (Bt (At d (.val (.bool neg)) σ) K))
   | .ref r p=>Xy (look σ r) p fun u=>match u with
     | .sl _ _ xs=>Len xs fun n=>Ask ((0:Int)<(n:Int)) (Bt (At d (.val (.bool neg)) σ) K)
     | _=>False
   | _=>Ahu (Bu (.nilq d neg x) σ) K
 | o=>Ahu (Bu o σ) K
theorem Aqt {o:AOp} {σ:St} {K:St→Prop} (h:Axf o σ K) : ∃σ',Bu o σ=some σ'∧K σ':=by
 unfold Axf at h
 split at h
 ·rename_i m k v
  split at h
  case h_2=>exact h.elim
  rename_i r p s u hm hk hv
  split at h
  case h_2=>exact h.elim
  rename_i x hx
  split at h
  case h_2=>exact h.elim
  rename_i T hT
  obtain ⟨nd,hs,hq⟩:=Vj h
  split at hq
  case h_2=>exact hq.elim
  rename_i o es
  split at hq
  case h_2=>exact hq.elim
  obtain ⟨T',h1,h2⟩:=Jm hq.h
  rw [Az] at h2
  exact ⟨_,by simp [Bu,Azq,hm,hk,hv,hT,hs,Dr,Aq6,hx,h1],h2⟩
 ·rename_i d m ps
  split at h
  ·rename_i Us σ1 hU
   obtain ⟨h1,h2⟩:=h.h
   rw [Az] at h2
   exact ⟨_,by simp [Bu,Arx,hU,h1],h2⟩
  exact h.elim
 ·rename_i d m x y
  obtain ⟨ys,σ1,hy,hk⟩:=Auv h
  obtain ⟨v,σ2,hX,hk⟩:=Ri hk
  split at hk
  case h_2=>exact hk.elim
  rename_i o m' xs
  split at hk
  case h_2=>exact hk.elim
  split at hk
  case h_2=>exact hk.elim
  rename_i hm
  have hm':=Nat.eq_of_beq_eq_true hm
  obtain ⟨h1,h2,h3⟩:=hk.h
  rw [Az] at h3
  exact ⟨_,by simp [Bu,Awq,hy,hX,hm',h1,h2],h3⟩
 ·rename_i d m x hi
  split at h
  case h_2=>exact h.elim
  rename_i hh hn
  obtain ⟨v,σ2,hX,hk⟩:=Ri h
  split at hk
  case h_2=>exact hk.elim
  rename_i o m' xs
  split at hk
  case h_2=>exact hk.elim
  split at hk
  case h_2=>exact hk.elim
  rename_i hm
  have hm':=Nat.eq_of_beq_eq_true hm
  obtain ⟨_,h1,h2,h3⟩:=hk.h
  rw [Az] at h3
  exact ⟨_,by simp only [Bu,Azh,hn,hX,hm',h1,h2,and_self,if_true],h3⟩
 ·rename_i d m n ag x i
  split at h
  case h_2=>exact h.elim
  rename_i hi
  obtain ⟨σ',h1,h2⟩:=X3 (h.x.h h.p.1 h.p.2)
  exact ⟨σ',by simp only [Bu,hi];exact h1,h2⟩
 ·rename_i n x v
  split at h
  case h_2=>exact h.elim
  rename_i U σ1 ht
  split at h
  case h_2=>exact h.elim
  rename_i r p c hl
  split at h
  case h_2=>exact h.elim
  rename_i T hT
  obtain ⟨u,hs,hk⟩:=Vj h
  split at hk
  case h_2=>exact hk.elim
  rename_i hc
  obtain ⟨nd',h1,h2⟩:=hk.h
  obtain ⟨T',h3,h4⟩:=Jm h2
  rw [Az] at h4
  exact ⟨_,by simp only [Bu,Apb,ht,hl,hT,hs,hc,h1,h3,if_true],h4⟩
 ·rename_i d neg x
  split at h
  ·rename_i o m xs e
   split at h
   ·exact h.elim
   obtain ⟨h1,h2⟩:=h.h
   rw [Az] at h2
   refine ⟨_,?_,h2⟩
   match xs,h1 with
   | [],h1=>simp at h1
   | y::ys,_=>simp [Bu,At4,e,An9]
  ·rename_i r p e
   obtain ⟨T,u,hT,hs,hn,hk⟩:=He h
   split at hk
   case h_2=>exact hk.elim
   rename_i o m xs
   obtain ⟨h1,h2⟩:=hk.h
   rw [Az] at h2
   refine ⟨_,?_,h2⟩
   match xs,h1,hn with
   | [],h1,_=>simp at h1
   | y::ys,_,hn=>simp [Bu,At4,e,An9,hn]
  exact X3 h
 exact X3 h
def Amk (o:AOp) (σ:St) (K:St→Prop):Prop:=match A27 o with
 | true=>Af0 o σ fun d a=>Bt (At d a σ) K
 | false=>Axf o σ K
theorem Rl {o:AOp} {σ:St} {K:St→Prop} (h:Amk o σ K) : ∃σ',Bu o σ=some σ'∧K σ':=by
 unfold Amk at h
 split at h
 ·obtain ⟨d,a,h1,h2⟩:=Rv h
  rw [Az] at h2
  exact ⟨_,(Apn h1).1,h2⟩
 exact Aqt h
structure CallQ (P:Program) (f d:Nat) (vs:List V) (ls:List (Nat×Nat×List Nat)) (rs:List Nat) (K:St→Prop) (σ:St):Prop where
 h:Ib σ ls rs=true∧Tri P f vs (Ew d ls rs K σ)
structure CallP (P:Program) (f d:Nat) (vs:List V) (rs:List Nat) (K:V→Prop):Prop where
 h : ∃v,Tri P f vs (fun res _=>res=v∧D0 rs v=true)∧K v
structure CloP (P:Program) (f d:Nat) (cs vs:List V) (rs:List Nat) (K:V→Prop):Prop where
 h : ∃v,Tri P f (vs++fzL cs) (fun res _=>res=v∧D0 rs v=true)∧K v
structure CloQ (P:Program) (f d:Nat) (cs vs:List V) (rs:List Nat) (K:St→Prop) (σ:St):Prop where
 h:Tri P f (vs++fzL cs) (Ew d [] rs K σ)
def Aqc (σ:St) (a:A) (io:Bool) (k:Nat) (K:V→List (Nat×Nat×List Nat)→List Nat→Prop):Prop:=match a with
 | .val v=>K v.fz [] []
 | .ref r p=>Xy (look σ r) p fun u=>match io&&u.node with
   | true=>K u [(k,r,p)] []
   | false=>K u.fz [] [r]
 | a=>match Lj σ a with
   | some v=>K v [] a.roots
   | none=>False
def Xs (σ:St):List (A×Bool)→Nat→(List V→List (Nat×Nat×List Nat)→List Nat→Prop)→Prop
 | [],_,K=>K [] [] []
 | (a,io)::rest,k,K=>Aqc σ a io k fun v ls' rs'=>Xs σ rest (k+1) fun vs ls rs=>K (v::vs) (ls'++ls) (rs'++rs)
theorem Aws {σ:St} {a:A} {io:Bool} {k:Nat} {K:V→List (Nat×Nat×List Nat)→List Nat→Prop} (h:Aqc σ a io k K) :
  (∃r p u,io=true∧P3 σ a=some (r,p,u)∧K u [(k,r,p)] [])∨((io=true→P3 σ a=none) ∧ ∃v,Lj σ a=some v∧K v [] a.roots):=by
 cases a with
 | val v=>exact .inr ⟨fun _=>rfl,_,rfl,h⟩
 | ref r p=>
   obtain ⟨T,u,hT,hs,hn,hk⟩:=He h
   split at hk
   ·rename_i hb
    simp only [Bool.and_eq_true] at hb
    exact .inl ⟨r,p,u,hb.1,by simp [P3,hn,hb.2],hk⟩
   ·rename_i hb
    refine .inr ⟨fun hi=> ?_,u.fz,by simp [Lj,hn],hk⟩
    simp only [P3,hn]
    cases hu:u.node with
    | false=>rfl
    | true=>rw [hi,hu] at hb;cases hb
 | top=>simp [Aqc,Lj] at h
 | addr r p c=>simp [Aqc,Lj] at h
 | fad cs=>simp [Aqc,Lj] at h
 | tie b f p q=>simp [Aqc,Lj] at h
 | agg as=>
   simp only [Aqc] at h
   split at h
   ·exact .inr ⟨fun _=>rfl,_,by assumption,h⟩
   ·exact h.elim
 | clo f as=>
   simp only [Aqc] at h
   split at h
   ·exact .inr ⟨fun _=>rfl,_,by assumption,h⟩
   ·exact h.elim
theorem Im {σ:St} : ∀ {as:List (A×Bool)} {k:Nat} {K:List V→List (Nat×Nat×List Nat)→List Nat→Prop},Xs σ as k K → ∃vs ls rs,Dv σ as k=some (vs,ls,rs)∧K vs ls rs:=by
 intro as
 induction as with
 | nil=>intro k K h;exact ⟨[],[],[],rfl,h⟩
 | cons e rest ih=>
   intro k K h
   obtain ⟨a,io⟩:=e
   simp only [Xs] at h
   rcases Aws h with ⟨r,p,u,h1,h2,h3⟩ | ⟨h1,v,h2,h3⟩
   ·obtain ⟨vs,ls,rs,h4,h5⟩:=ih h3
    exact ⟨_,_,_,by simp [Dv,h4,h1,h2],h5⟩
   ·obtain ⟨vs,ls,rs,h4,h5⟩:=ih h3
    refine ⟨_,_,_,?_,h5⟩
    simp only [Dv,h4]
    have:(if io=true then P3 σ a else none)=none:=by split<;>simp_all
    simp [this,h2]
structure LendQ (P:Program) (f d n:Nat) (bs:List A) (vs:List V) (ls:List (Nat×Nat×List Nat)) (rs:List Nat) (K:St→Prop) (σ:St):Prop where
 h:Ib σ ls rs=true∧Tri P f (Arg n bs.length vs) (Ul n (Ew d ls rs K σ))
structure CallT (P:Program) (f m j d:Nat) (vs:List V) (ls:List (Nat×Nat×List Nat)) (rs:List Nat) (K:St→Prop) (σ:St):Prop where
 h:Ib σ ls rs=true∧Atf P f m j vs (Ew d ls rs K σ)
def Atv (P:Program) (f d:Nat) (as:List (A×Bool)) (K:St→Prop) (σ:St):Prop:=match Ku as with
 | some (pre,bs,rest)=>Xs σ (pre++(bs.map (·,true)++rest)) 0 fun vs ls rs=>LendQ P f d pre.length bs vs ls rs K σ
 | none=>Xs σ as 0 fun vs ls rs=>CallQ P f d vs ls rs K σ
def opK (P:Program) (o:AOp) (σ:St) (K:St→Prop):Prop:=match o with
 | .call d f as=>Atv P f d (Di σ as) K σ
 | .cally d x as ms=>match Ag σ x with
   | .val (.clo f cs)=>Xs σ (Di σ (as.map (·,false))) 0 fun vs ls rs=>match ls with
     | []=>CloQ P f d cs vs rs K σ
     | _=>False
   | .val (.fclo f cs)=>Xs σ (Di σ (as.map (·,false))) 0 fun vs ls rs=>match ls with
     | []=>CloQ P f d cs vs rs K σ
     | _=>False
   | .clo f cs=>Atv P f d (Di σ (as.map (·,false))++Adr ms cs) K σ
   | .tie true f p q=>Xs σ (Di σ (as.map (·,false))++Adr ms (p ++ .val .dead::q)) 0 fun vs ls rs=>CallT P f as.length p.length d vs ls rs K σ
   | _=>False
 | .slc d m (.t s) lo hi=>(match look σ s with
   | .val T=>(match T.hasOwn with
     | true=>Bt (Ahe s σ) fun σ'=>Amk (.slc d m (.t s) lo hi) σ' K
     | false=>Amk (.slc d m (.t s) lo hi) σ K)
   | _=>Amk (.slc d m (.t s) lo hi) σ K)
 | o=>Amk o σ K
theorem Af9 {P:Program} {f d:Nat} {as:List (A×Bool)} {K:St→Prop} {σ:St} (h:Atv P f d as K σ):Ic P f d as K σ:=by
 unfold Atv at h
 unfold Ic
 split at h
 ·rename_i e
  simp only [e]
  obtain ⟨vs,ls,rs,h1,h2⟩:=Im h
  rw [h1];exact h2.h
 rename_i e
 simp only [e]
 obtain ⟨vs,ls,rs,h1,h2⟩:=Im h
 rw [h1];exact h2.h
theorem Aey {P:Program} {o:AOp} {σ:St} {K:St→Prop} (h:opK P o σ K):Uc P o K σ:=by
 unfold opK at h
 unfold Uc
 split at h
 ·exact Af9 h
 ·split at h
  ·rename_i e
   obtain ⟨vs,ls,rs,h1,h2⟩:=Im h
   split at h2
   case h_2=>exact h2.elim
   simp only [e,X9]
   unfold Ic
   rw [Aam]
   simp only
   rw [U8 (fun k=>Abj _ k) h1]
   exact ⟨rfl,h2.h⟩
  ·rename_i e
   obtain ⟨vs,ls,rs,h1,h2⟩:=Im h
   split at h2
   case h_2=>exact h2.elim
   simp only [e,X9]
   unfold Ic
   rw [Aam]
   simp only
   rw [U8 (fun k=>Abj _ k) h1,Y4]
   exact ⟨rfl,h2.h⟩
  ·rename_i e
   simp only [e,X9];exact Af9 h
  ·rename_i e
   obtain ⟨vs,ls,rs,h1,h2⟩:=Im h
   simp only [e,X9,Azj]
   unfold P4
   rw [h1];exact h2.h
  exact h.elim
 ·rename_i d m s lo hi
  simp only [Ab2]
  split at h
  ·rename_i T hT
   simp only [hT]
   split at h
   ·rename_i ho
    rw [Az] at h
    obtain ⟨σ',e,hk⟩:=Rl h
    simp only [ho]
    rw [e];exact hk
   rename_i ho
   obtain ⟨σ',e,hk⟩:=Rl h
   simp only [ho]
   rw [e];exact hk
  rename_i hne
  obtain ⟨σ',e,hk⟩:=Rl h
  split
  ·rename_i σ2 he
   split at he
   ·rename_i T hT;exact absurd hT (hne T)
   rw [e] at he;cases he;exact hk
  rename_i he
  split at he
  ·rename_i T hT;exact absurd hT (hne T)
  rw [e] at he;cases he
 rename_i h1 h2 h3
 obtain ⟨σ',e,hk⟩:=Rl h
 have hp:Ab2 o σ=σ:=by
  unfold Ab2
  split
  ·exact absurd rfl (h3 _ _ _ _ _)
  ·rfl
 split
 ·exact absurd rfl (h1 _ _ _)
 ·exact absurd rfl (h2 _ _ _ _)
 rw [hp,e];exact hk
def Asg (P:Program) (o:AOp) (σ:St) (K:St→Prop):Prop:=match o with
 | .call d f as=>(match Amz as with
   | []=>opK P (.call d f as) σ K
   | _::_=>Bt (Aa7 as σ) fun τ=>opK P (.call d f as) τ K)
 | o=>opK P o σ K
theorem Ahr {P:Program} {o:AOp} {σ:St} {K:St→Prop} (h:Asg P o σ K):Oo P o K σ:=by
 unfold Asg at h
 unfold Oo
 split at h
 ·simp only [Yp]
  split at h
  ·rename_i e
   simp only [e]
   exact Aey h
  rename_i e
  rw [Az] at h
  simp only [e]
  exact Aey h
 rename_i h1
 have hp:Yp o σ=σ:=by
  unfold Yp
  split
  ·exact absurd rfl (h1 _ _ _)
  ·rfl
 rw [hp]
 exact Aey h
def P7 (P:Program):List G→(St→Prop)→St→Prop
 | [],K,σ=>K σ
 | ⟨none,o⟩::r,K,σ=>Asg P o σ (P7 P r K)
 | ⟨some (s,true),o⟩::r,K,σ=>match look σ s with
   | .val (.bool b)=>Br b (Bt (Lr s true σ) fun τ=>Asg P o τ (P7 P r K)) (Bt (Xp o (Lr s false σ)) (P7 P r K))
   | .val (.tup [])=>Bt (Xp o σ) (P7 P r K)
   | _=>False
 | ⟨some (s,false),o⟩::r,K,σ=>match look σ s with
   | .val (.bool b)=>Br b (Bt (Xp o (Lr s true σ)) (P7 P r K)) (Bt (Lr s false σ) fun τ=>Asg P o τ (P7 P r K))
   | .val (.tup [])=>Bt (Xp o σ) (P7 P r K)
   | _=>False
theorem Rj {P:Program} : ∀ {gs:List G} {K:St→Prop} {σ:St},P7 P gs K σ→E3 P gs K σ:=by
 intro gs
 induction gs with
 | nil=>intro K σ h;exact h
 | cons x r ih=>
   intro K σ h
   obtain ⟨g,o⟩:=x
   have run : ∀ {τ},Asg P o τ (P7 P r K)→Oo P o (E3 P r K) τ:=fun h=>Kw (fun _=>ih) (Ahr h)
   match g,h with
   | none,h=>exact run h
   | some (s,true),h=>
     simp only [P7] at h
     simp only [E3]
     split at h
     ·rename_i b hb
      simp only [hb]
      refine ⟨fun e=> ?_,fun e=> ?_⟩
      ·subst e
       have:=h.t rfl
       rw [Az,Pw hb] at this
       exact run this
      ·have e':b=false:=by simpa using e
       subst e'
       have:=h.f rfl
       rw [Az,Pw hb] at this
       exact ih this
     ·rename_i hb
      simp only [hb]
      rw [Az] at h;exact ih h
     ·exact h.elim
   | some (s,false),h=>
     simp only [P7] at h
     simp only [E3]
     split at h
     ·rename_i b hb
      simp only [hb]
      refine ⟨fun e=> ?_,fun e=> ?_⟩
      ·subst e
       have:=h.f rfl
       rw [Az,Pw hb] at this
       exact run this
      ·have e':b=true:=by simpa using e
       subst e'
       have:=h.t rfl
       rw [Az,Pw hb] at this
       exact ih this
     ·rename_i hb
      simp only [hb]
      rw [Az] at h;exact ih h
     ·exact h.elim
def yNK (σ:St) (m s:Nat) (y:A) (K:List V→Prop):Prop:=match y with
 | .val (.sl _ m' ys)=>(match Nat.beq m' m with
   | true=>K ys
   | false=>False)
 | .val (.nilsl _)=>K []
 | .ref r p=>(match Nat.beq r s with
   | true=>False
   | false=>Xy (look σ r) p fun u=>match u with
     | .sl o m' ys=>(match o with
       | true=>(match Nat.beq m' m with
         | true=>NoOwn ys (K ys) False
         | false=>False)
       | false=>False)
     | _=>False)
 | _=>False
theorem Axd {σ:St} {m s:Nat} {y:A} {K:List V→Prop} (h:yNK σ m s y K) : ∃ys,yN σ m s y=some ys∧K ys:=by
 unfold yNK at h
 split at h
 ·split at h
  ·rename_i hm
   exact ⟨_,by simp [yN,Nat.eq_of_beq_eq_true hm],h⟩
  exact h.elim
 ·exact ⟨_,by simp [yN],h⟩
 ·split at h
  ·exact h.elim
  rename_i hrs
  obtain ⟨T,u,hT,hs,hn,hk⟩:=He h
  split at hk
  case h_2=>exact hk.elim
  split at hk
  case h_2=>exact hk.elim
  split at hk
  case h_2=>exact hk.elim
  rename_i hm
  have hm':=Nat.eq_of_beq_eq_true hm
  have hne : ∀ {r:Nat},Nat.beq r s=false→r≠s:=by
   intro r h1 h2;subst h2;simp at h1
  rcases hk.h with ⟨h1,h2⟩ | ⟨_,h2⟩
  ·exact ⟨_,by simp [yN,hn,hm',h1,hne hrs],h2⟩
  exact h2.elim
 exact h.elim
def Ajj:List Nat→(List Nat→Prop)→Prop
 | [],K=>K []
 | n::r,K=>Ajj r fun s=>K (n::s)
theorem Amv : ∀(l:List Nat) (K:List Nat→Prop),Ajj l K=K l:=by
 intro l
 induction l with
 | nil=>intro K;rfl
 | cons n r ih=>intro K;simp only [Ajj];rw [ih]
def Asv (P:Program) (o:AOp) (σ:St) (K:Nat→A→List Nat→Prop):Prop:=match o with
 | .call d f as=>match as.all (fun e => !e.2) with
   | true=>Xs σ (Di σ as) 0 fun vs ls rs=>match ls with
     | []=>CallP P f d vs rs fun v=>K d (.val v) []
     | _=>False
   | false=>False
 | .cally d x as _=>(match Ag σ x with
   | .val (.fclo f cs)=>Xs σ (Di σ (as.map (·,false))) 0 fun vs ls rs=>match ls with
     | []=>CloP P f d cs vs rs fun v=>K d (.val v) []
     | _=>False
   | _=>False)
 | .app d m (.t s) y=>(match look σ s with
   | .val (.sl o m' xs)=>(match o with
     | true=>(match Nat.beq m' m with
       | true=>yNK σ m s (Ag σ y) fun ys=>AppQ d xs ys fun l=>K d (.val (.sl true m l)) [s]
       | false=>False)
     | false=>False)
   | _=>False)
 | .bsl d m ps=>(match Ou σ ps with
   | some (Us,ks)=>BslQ d m Us fun l=>Ajj ks fun ks=>K d (.val (.sl true m l)) ks
   | none=>False)
 | .asg d (.t s)=>(match look σ s with
   | .val v=>(match v.hasOwn with
     | true=>Qv (.val v) fun a=>K d a [s]
     | false=>Qv (.val v.up) fun a=>K d a [])
   | _=>False)
 | o=>Af0 o σ fun d a=>K d a []
theorem Apm {P:Program} {o:AOp} {σ:St} {K:Nat→A→List Nat→Prop} (h:Asv P o σ K):Pa P o σ K:=by
 unfold Asv at h
 unfold Pa
 split at h
 ·split at h
  case h_2=>exact h.elim
  rename_i hio
  refine ⟨hio,?_⟩
  obtain ⟨vs,ls,rs,h1,h2⟩:=Im h
  split at h2
  case h_2=>exact h2.elim
  rw [h1]
  exact h2.h
 ·split at h
  case h_2=>exact h.elim
  rename_i hx
  obtain ⟨vs,ls,rs,h1,h2⟩:=Im h
  split at h2
  case h_2=>exact h2.elim
  simp only [hx,h1]
  exact h2.h
 ·split at h
  case h_2=>exact h.elim
  rename_i hL
  split at h
  case h_2=>exact h.elim
  split at h
  case h_2=>exact h.elim
  rename_i hm
  obtain ⟨ys,h1,h2⟩:=Axd h
  simp only [hL,h1]
  obtain ⟨k1,k2,k3⟩:=h2.h
  exact ⟨⟨trivial,Nat.eq_of_beq_eq_true hm,k1,k2⟩,k3⟩
 ·split at h
  case h_2=>exact h.elim
  rename_i ht
  obtain ⟨k1,k2⟩:=h.h
  rw [Amv] at k2
  simp only [ht]
  exact ⟨k1,k2⟩
 ·split at h
  case h_2=>exact h.elim
  rename_i hL
  split at h
  ·rename_i hv
   rw [M3] at h
   simp only [hL,hv];exact h
  rename_i hv
  rw [M3] at h
  simp only [hL,hv];exact h
 rename_i h1 h0 h2 h3 h4
 obtain ⟨d,a,e,hk⟩:=Rv h
 split
 ·exact absurd rfl (h1 _ _ _)
 ·exact absurd rfl (h0 _ _ _ _)
 ·exact absurd rfl (h2 _ _ _ _)
 ·exact absurd rfl (h3 _ _ _)
 ·exact absurd rfl (h4 _ _)
 rw [e];exact hk
def hk (hide kl:List Nat):List Nat:=match kl with
 | []=>hide
 | k::r=>hide++(k::r)
theorem Aqv (hide kl:List Nat):hk hide kl=hide++kl:=by
 cases kl with
 | nil=>simp [hk]
 | cons k r=>rfl
def Aze (acc:St) (kl:List Nat):Bool:=match kl with
 | []=>true
 | k::r=>Nj acc (k::r)
theorem Am8 {acc:St} {kl:List Nat} (h:Aze acc kl=true):Nj acc kl=true:=by
 cases kl with
 | nil=>unfold Nj;simp
 | cons k r=>exact h
def Aus (kl:List Nat) (acc:St):St:=match kl with
 | []=>acc
 | k::r=>D1 (k::r) acc
theorem Aqr (kl:List Nat) (acc:St):Aus kl acc=D1 kl acc:=by
 cases kl with
 | nil=>
   simp only [Aus]
   induction acc with
   | nil=>rfl
   | cons e r ih=>obtain ⟨d,a⟩:=e;simp [D1,←ih]
 | cons k r=>rfl
structure LendP (P:Program) (f d:Nat) (vs:List V) (rs:List Nat) (k:Nat) (p:List Nat) (T:V) (K:V→V→Prop):Prop where
 h : ∃v u T',Tri P f vs (fun res outs=>res=v∧outs[k]? = some u)∧(D0 rs v=true∧D0 rs u=true∧u.node=true∧upd p T u=some T')∧K v T'
def Aoh (P:Program) (o:AOp) (s:Nat) (σ:St) (K:Nat→V→Nat×V×Nat→Prop):Prop:=match o with
 | .call d f as=>(match Ku (Di σ as) with
   | some _=>False
   | none=>Xs σ (Di σ as) 0 fun vs ls rs=>match ls with
     | [(k,r,p)]=>(match Nat.beq r s && !rs.contains r with
       | true=>(match look σ r with
         | .val T=>LendP P f d vs rs k p T fun v T'=>K d v (r,T',p.length+1)
         | _=>False)
       | false=>False)
     | _=>False)
 | _=>False
theorem Alc {P:Program} {o:AOp} {s:Nat} {σ:St} {K:Nat→V→Nat×V×Nat→Prop} (h:Aoh P o s σ K):X5 P o s σ K:=by
 unfold Aoh at h
 unfold X5
 split at h
 case h_2=>exact h.elim
 split at h
 ·exact h.elim
 rename_i hgv
 obtain ⟨vs,ls,rs,h1,h2⟩:=Im h
 split at h2
 case h_2=>exact h2.elim
 rename_i k r p
 split at h2
 case h_2=>exact h2.elim
 rename_i hb
 simp only [Bool.and_eq_true,Bool.not_eq_true'] at hb
 split at h2
 case h_2=>exact h2.elim
 rename_i T hT
 simp only [hgv,h1,hT]
 exact ⟨⟨Nat.eq_of_beq_eq_true hb.1,hb.2⟩,h2.h⟩
def Ajg (ls hide:List Nat) (cs:List (Nat×V×Nat)) (σ:St):St:=match ls with
 | []=>σ
 | l::q=>Mq (l::q) hide cs σ
theorem Avl (σ:St):Z3 [] σ=σ:=by
 induction σ with
 | nil=>rfl
 | cons e r ih=>
   obtain ⟨k,a⟩:=e
   simp [Z3,ih]
theorem Axt {ls hide:List Nat} {cs:List (Nat×V×Nat)} {σ:St} (hc : ∀c∈cs,ls.contains c.1=true):Ajg ls hide cs σ=Mq ls hide cs σ:=by
 cases ls with
 | nil=>
   have:cs=[]:=by
    cases cs with
    | nil=>rfl
    | cons c q=>have:=hc c (by simp);simp at this
   subst this
   simp only [Ajg,Mq,List.filter_nil,Fu]
   have:(List.filter (fun x=>([]:List Nat).contains x) hide)=[]:=by simp
   rw [this,Avl]
 | cons l q=>rfl
abbrev Ar8:=St→List Nat→List (Nat×V×Nat)→(St→Prop)→Prop
def Atq (σ0 acc:St) (o:AOp) (hide kl:List Nat) (cs:List (Nat×V×Nat)) (K:St→Prop) (ih:Ar8) (acc1:St) (d:Nat) (a:A) (ks:List Nat):Prop:=match Rz d acc σ0 with
 | true=>(match ks with
   | []=>Bt (acc1++[(d,a.mapR (Aq d 0))]) fun acc'=>ih acc' kl cs K
   | k::q=>(match Aat (k::q) o (D1 (hk hide kl) acc) with
     | true=>Bt (acc1++[(d,a.mapR (Aq d 0))]) fun acc'=>Ajj (kl++(k::q)) fun kl'=>ih acc' kl' cs K
     | false=>False))
 | false=>False
def Yy (σ0 acc:St) (o:AOp) (kl:List Nat) (cs:List (Nat×V×Nat)) (K:St→Prop) (ih:Ar8) (acc1:St):Prop:=match o.dst with
 | some d=>(match Rz d acc σ0 with
   | true=>Bt (acc1++[(d,.val (.tup []))]) fun acc'=>ih acc' kl cs K
   | false=>False)
 | none=>False
def Ah8 (P:Program) (ls:List Nat) (σ0 acc:St) (o:AOp) (hide kl:List Nat) (cs:List (Nat×V×Nat)) (K:St→Prop) (ih:Ar8) (acc1:St):Prop:=
 Bt (D1 (hk hide kl) acc1++Ajg ls hide cs σ0) fun σh=>Asv P o σh (Atq σ0 acc o hide kl cs K ih acc1)
def At5 (P:Program) (ls:List Nat) (σ0 acc:St) (o:AOp) (s:Nat) (hide kl:List Nat) (cs:List (Nat×V×Nat)) (K:St→Prop) (ih:Ar8):Prop:=
 Bt (D1 (hk hide kl) acc++Ajg ls hide.tail cs σ0) fun σh=>Aoh P o s σh fun d v c=>match Rz d acc σ0&&ls.contains s&&Asq (look σ0 s)&&Nat.beq c.1 s with
  | true=>Bt (acc++[(d,.val v)]) fun acc'=>ih acc' kl (cs++[c]) K
  | false=>False
def Ab8 (P:Program) (ls:List Nat) (σ0:St) (x:G×List Nat) (ih:Ar8) (acc:St) (kl:List Nat) (cs:List (Nat×V×Nat)) (K:St→Prop):Prop:=match x with
 | (⟨none,o⟩,hide)=>(match Mi o hide with
   | []=>Ah8 P ls σ0 acc o hide kl cs K ih acc
   | s::_=>At5 P ls σ0 acc o s hide kl cs K ih)
 | (⟨some (s,true),o⟩,hide)=>(match (hk hide kl).contains s || !(Mi o hide).isEmpty with
   | true=>False
   | false=>(match look (D1 (hk hide kl) acc++Ajg ls hide cs σ0) s with
     | .val (.bool b)=>Br b (Ah8 P ls σ0 acc o hide kl cs K ih (Lr s true acc)) (Yy σ0 acc o kl cs K ih (Lr s false acc))
     | .val (.tup [])=>Yy σ0 acc o kl cs K ih acc
     | _=>False))
 | (⟨some (s,false),o⟩,hide)=>(match (hk hide kl).contains s || !(Mi o hide).isEmpty with
   | true=>False
   | false=>(match look (D1 (hk hide kl) acc++Ajg ls hide cs σ0) s with
     | .val (.bool b)=>Br b (Yy σ0 acc o kl cs K ih (Lr s true acc)) (Ah8 P ls σ0 acc o hide kl cs K ih (Lr s false acc))
     | .val (.tup [])=>Yy σ0 acc o kl cs K ih acc
     | _=>False))
def Atk (σ0 acc:St) (kl:List Nat) (cs:List (Nat×V×Nat)) (K:St→Prop):Prop:=match Aze acc kl with
 | true=>(match cs with
   | []=>Bt (Aus kl acc++σ0) K
   | c::q=>(match Afz acc (c::q) with
     | true=>Bt (Aus kl acc++Fu (c::q) σ0) K
     | false=>False))
 | false=>False
def Amw (P:Program) (ls:List Nat) (σ0:St) (l:List (G×List Nat)):Ar8:=
 List.rec (motive:=fun _=>Ar8) (Atk σ0) (fun x _ ih=>Ab8 P ls σ0 x ih) l
theorem Vn {hide:List Nat} {acc σ0:St} {s:Nat} {b:Bool} (h:look (D1 hide acc++σ0) s = .val (.bool b)) (hh:hide.contains s=false):Lr s b acc=acc:=by
 rw [Fd] at h
 split at h
 ·rw [Aa5 _ _ _ hh] at h
  exact Pw h
 rename_i hk
 rw [Yx] at hk
 have hk':A6 s acc=false:=by
  rw [hh] at hk;simpa using hk
 clear h hk
 induction acc with
 | nil=>rfl
 | cons e r ih=>
   obtain ⟨k,a⟩:=e
   simp only [A6,Bool.or_eq_false_iff,beq_eq_false_iff_ne] at hk'
   simp only [Lr]
   rw [show Nat.beq k s=false by
    cases hb:Nat.beq k s with
    | false=>rfl
    | true=>exact absurd (Nat.eq_of_beq_eq_true hb) hk'.1]
   simp only [ih hk'.2]
theorem Atd {P:Program} {o:AOp} {σ:St} {c c':Nat→A→List Nat→Prop} (h : ∀d a ks,c d a ks→c' d a ks) (ha:Pa P o σ c):Pa P o σ c':=Aav h ha
theorem Aga {P:Program} {ls:List Nat} {σ0:St} : ∀ {l:List (G×List Nat)} {acc:St} {kl:List Nat} {cs:List (Nat×V×Nat)} {KS:List (List Nat)} {CS:List (List (Nat×V×Nat))} {K:St→Prop},KS.flatten=kl→CS.flatten=cs→(∀c∈cs,ls.contains c.1=true)→Amw P ls σ0 l acc kl cs K→Fm P ls σ0 l acc KS CS K:=by
 intro l
 induction l with
 | nil=>
   intro acc kl cs KS CS K hkl hcs hin h
   subst hkl
   change Atk σ0 acc KS.flatten cs K at h
   simp only [Atk] at h
   split at h
   ·rename_i hr
    split at h
    ·rw [Az,Aqr] at h
     refine ⟨⟨Am8 hr,?_⟩,?_⟩
     ·rw [hcs];unfold Afz;simp
     ·rw [hcs];exact h
    ·split at h
     ·rename_i hr2
      rw [Az,Aqr] at h
      rw [←hcs] at h hr2
      exact ⟨⟨Am8 hr,hr2⟩,h⟩
     ·exact h.elim
   ·exact h.elim
 | cons x r ih=>
   intro acc kl cs KS CS K hkl hcs hin h
   subst hkl
   obtain ⟨⟨g,o⟩,hide⟩:=x
   change Ab8 P ls σ0 (⟨g,o⟩,hide) (Amw P ls σ0 r) acc KS.flatten cs K at h
   have hbk : ∀hide,Ajg ls hide cs σ0=Mq ls hide CS.flatten σ0:=fun hide=>by rw [Axt hin,hcs]
   have run:Ah8 P ls σ0 acc o hide KS.flatten cs K (Amw P ls σ0 r) acc→Pa P o (D1 (hide++KS.flatten) acc++Mq ls hide CS.flatten σ0) fun d a ks=>(Rz d acc σ0=true∧Aat ks o (D1 (hide++KS.flatten) acc)=true)∧Fm P ls σ0 r (acc++[(d,a.mapR (Aq d 0))]) (KS++[ks]) (CS++[[]]) K:=by
    intro h
    unfold Ah8 at h
    rw [Az,Aqv,hbk] at h
    refine Atd ?_ (Apm h)
    intro d a ks hk
    unfold Atq at hk
    rw [Aqv] at hk
    split at hk
    ·rename_i hf
     split at hk
     ·rw [Az] at hk
      exact ⟨⟨hf,rfl⟩,ih (by simp) (by simp [hcs]) hin hk⟩
     ·split at hk
      ·rename_i hkk
       rw [Az,Amv] at hk
       exact ⟨⟨hf,hkk⟩,ih (by simp) (by simp [hcs]) hin hk⟩
      ·exact hk.elim
    ·exact hk.elim
   have skip:Yy σ0 acc o KS.flatten cs K (Amw P ls σ0 r) acc→(match o.dst with
      | some d=>Rz d acc σ0=true∧Fm P ls σ0 r (acc++[(d,.val (.tup []))]) (KS++[[]]) (CS++[[]]) K
      | none=>False):=by
    intro h
    unfold Yy at h
    cases hd:o.dst with
    | none=>rw [hd] at h;exact h.elim
    | some d=>
      rw [hd] at h
      cases hf:Rz d acc σ0 with
      | false=>simp only [hf] at h
      | true=>
        simp only [hf] at h
        rw [Az] at h
        exact ⟨hf,ih (by simp) (by simp [hcs]) hin h⟩
   match g,h with
   | none,h=>
     simp only [Ab8] at h
     simp only [Fm]
     cases hlo:Mi o hide with
     | nil=>rw [hlo] at h;exact run h
     | cons s q=>
       rw [hlo] at h
       simp only at h ⊢
       unfold At5 at h
       rw [Az,Aqv,hbk] at h
       refine Afv ?_ (Alc h)
       intro d v c hc
       split at hc
       case h_2=>exact hc.elim
       rename_i hcond
       simp only [Bool.and_eq_true] at hcond
       rw [Az] at hc
       refine ⟨⟨hcond.1.1.1,hcond.1.1.2,hcond.1.2⟩,ih (by simp) (by simp [hcs]) ?_ hc⟩
       intro c' hc'
       rcases List.mem_append.1 hc' with h1 | h1
       ·exact hin c' h1
       ·simp at h1
        subst h1
        rw [Nat.eq_of_beq_eq_true hcond.2];exact hcond.1.1.2
   | some (s,true),h=>
     simp only [Ab8,Aqv,hbk] at h
     simp only [Fm]
     split at h
     ·exact h.elim
     rename_i hh
     simp only [Bool.or_eq_false_iff,Bool.not_eq_false',List.isEmpty_iff] at hh
     refine ⟨hh.2,?_⟩
     replace hh:=hh.1
     split at h
     ·rename_i b hb
      simp only [hb]
      refine ⟨fun e=> ?_,fun e=> ?_⟩
      ·subst e
       have:=h.t rfl
       rw [Vn hb hh] at this
       exact run this
      ·have e':b=false:=by simpa using e
       subst e'
       have:=h.f rfl
       rw [Vn hb hh] at this
       exact skip this
     ·rename_i hb
      simp only [hb]
      exact skip h
     ·exact h.elim
   | some (s,false),h=>
     simp only [Ab8,Aqv,hbk] at h
     simp only [Fm]
     split at h
     ·exact h.elim
     rename_i hh
     simp only [Bool.or_eq_false_iff,Bool.not_eq_false',List.isEmpty_iff] at hh
     refine ⟨hh.2,?_⟩
     replace hh:=hh.1
     split at h
     ·rename_i b hb
      simp only [hb]
      refine ⟨fun e=> ?_,fun e=> ?_⟩
      ·subst e
       have:=h.f rfl
       rw [Vn hb hh] at this
       exact run this
      ·have e':b=true:=by simpa using e
       subst e'
       have:=h.t rfl
       rw [Vn hb hh] at this
       exact skip this
     ·rename_i hb
      simp only [hb]
      exact skip h
     ·exact h.elim
structure SameQ (x y:A) (K:Prop):Prop where
 h:x=y∧K
def Anq (A:List (Nat×AOp)) (K:St→Prop):St→Prop:=
 List.rec (motive:=fun _=>St→Prop) K (fun e _ ih σ=>Af0 e.2 σ fun d a=>match Z5 a with
  | true=>Bt (At d a σ) ih
  | false=>False) A
def Akc (xs:List Nat) (σ:St) (K:Prop) (A:List (Nat×AOp)):Prop:=
 List.rec (motive:=fun _=>Prop) K (fun e _ ih=>match xs.contains e.1 with
  | true=>Af0 e.2 σ fun d a=>match Aqf a d σ with
    | true=>SameQ (look σ d) a ih
    | false=>False
  | false=>ih) A
def Y9 (P:Program) (o:AOp) (ds:List Nat) (σ:St) (K:St→Prop):Prop:=match ds with
 | []=>Asg P o σ K
 | s::q=>(match o with
   | .app d m x y=>yK σ m (Ag σ y) fun ys σ1=>Afd σ1 (Ag σ1 x) fun v σ2=>match v with
     | .sl o m' xs=>(match o with
       | true=>(match Nat.beq m' m with
         | true=>AppQ d xs ys fun l=>Bt (I9 (s::q) (At d (.val (.sl true m l)) σ2)) K
         | false=>False)
       | false=>False)
     | _=>False
   | .slt d m x hi=>(match Anx (Ag σ hi) with
     | some h=>Afd σ (Ag σ x) fun v σ2=>match v with
       | .sl o m' xs=>(match o with
         | true=>(match Nat.beq m' m with
           | true=>SlcQ xs 0 h fun ys=>Bt (I9 (s::q) (At d (.val (.sl true m ys)) σ2)) K
           | false=>False)
         | false=>False)
       | _=>False
     | none=>False)
   | _=>False)
theorem Awi (σ:St):I9 [] σ=σ:=by
 have key : ∀a:A,a.mapR (Ahz [])=a:=by
  intro a
  have e:Ahz []=fun r _=>some r:=by funext r p;simp [Ahz]
  rw [e];exact Atw a
 induction σ with
 | nil=>rfl
 | cons e r ih=>obtain ⟨k,a⟩:=e;simp [I9,ih,key]
theorem Aaa {P:Program} {o:AOp} {ds:List Nat} {σ:St} {K:St→Prop} (h:Y9 P o ds σ K):Oo P o (fun σ'=>K (I9 ds σ')) σ:=by
 unfold Y9 at h
 split at h
 ·refine Kw (fun σ' hk=> ?_) (Ahr h)
  rw [Awi];exact hk
 split at h
 case h_3=>exact h.elim
 ·obtain ⟨ys,σ1,hy,hk⟩:=Auv h
  obtain ⟨v,σ2,hX,hk⟩:=Ri hk
  split at hk
  case h_2=>exact hk.elim
  split at hk
  case h_2=>exact hk.elim
  split at hk
  case h_2=>exact hk.elim
  rename_i hm
  have hm':=Nat.eq_of_beq_eq_true hm
  obtain ⟨h1,h2,h3⟩:=hk.h
  rw [Az] at h3
  simp only [Oo,Yp,Uc,Ab2,Bu,Awq,hy,hX,hm',h1,h2]
  simpa using h3
 split at h
 case h_2=>exact h.elim
 rename_i hh hn
 obtain ⟨v,σ2,hX,hk⟩:=Ri h
 split at hk
 case h_2=>exact hk.elim
 split at hk
 case h_2=>exact hk.elim
 split at hk
 case h_2=>exact hk.elim
 rename_i hm
 have hm':=Nat.eq_of_beq_eq_true hm
 obtain ⟨_,h1,h2,h3⟩:=hk.h
 rw [Az] at h3
 simp only [Oo,Yp,Uc,Ab2,Bu,Azh,hn,hX,hm',h1,h2,and_self,if_true]
 simpa using h3
structure Two (X Y:Prop):Prop where
 h:X∧Y
def Ajy (P:Program) (A:List (Nat×AOp)) (K:St→Prop) (pl:LPlan):Bool→St→Prop:=
 LPlan.rec (motive:=fun _=>Bool→St→Prop) (fun b σ=>match b with
  | true=>K σ
  | false=>True) (fun _ x xs ds _ ot ihn iho _ σ=>match ot with
    | .nil=>Akc xs σ (Y9 P x ds σ (ihn true)) A
    | .alt .. => Two (Akc xs σ (Y9 P x ds σ (ihn true)) A) (iho false σ)) pl
theorem Al8 : ∀ {A:List (Nat×AOp)} {K:St→Prop} {σ},Anq A K σ→Kb A K σ:=by
 intro A
 induction A with
 | nil=>intro K σ h;exact h
 | cons e r ih=>
   intro K σ h
   obtain ⟨i,x⟩:=e
   have h':Af0 x σ fun d a=>match Z5 a with
    | true=>Bt (At d a σ) (Anq r K)
    | false=>False:=h
   obtain ⟨d,a,h1,h2⟩:=Rv h'
   simp only [Kb,h1]
   split at h2
   ·rename_i hu
    rw [Az] at h2
    exact ⟨hu,ih h2⟩
   ·exact h2.elim
theorem Af3 {xs:List Nat} {σ:St} {K:Prop} : ∀ {A:List (Nat×AOp)},Akc xs σ K A→Ase A xs σ∧K:=by
 intro A
 induction A with
 | nil=>intro h;exact ⟨(fun e he=>by cases he),h⟩
 | cons e r ih=>
   intro h
   change (match xs.contains e.1 with
    | true=>Af0 e.2 σ fun d a=>match Aqf a d σ with
      | true=>SameQ (look σ d) a (Akc xs σ K r)
      | false=>False
    | false=>Akc xs σ K r) at h
   split at h
   ·obtain ⟨d,a,h1,h2⟩:=Rv h
    split at h2
    ·rename_i hu
     obtain ⟨h3,h4⟩:=h2.h
     obtain ⟨h5,h6⟩:=ih h4
     refine ⟨fun f hf hx=> ?_,h6⟩
     rcases List.mem_cons.1 hf with rfl | hf
     ·exact ⟨d,a,h1,h3,hu⟩
     ·exact h5 f hf hx
    ·exact h2.elim
   ·rename_i hx
    obtain ⟨h5,h6⟩:=ih h
    refine ⟨fun f hf hx2=> ?_,h6⟩
    rcases List.mem_cons.1 hf with rfl | hf
    ·rw [hx] at hx2;cases hx2
    ·exact h5 f hf hx2
theorem Apc {P:Program} {A:List (Nat×AOp)} {K:St→Prop} : ∀ {pl:LPlan} {b:Bool} {σ},Ajy P A K pl b σ→Ns P A K pl b σ:=by
 intro pl
 induction pl with
 | nil=>intro b σ h hb;subst hb;exact h
 | alt i x xs ds nx ot ih1 ih2=>
   intro b σ h
   cases ot with
   | nil=>
     change Akc xs σ (Y9 P x ds σ (Ajy P A K nx true)) A at h
     obtain ⟨h1,h2⟩:=Af3 h
     exact ⟨⟨h1,Kw (fun _=>ih1) (Aaa h2)⟩,fun hb=>by cases hb⟩
   | alt j y ys es ny oy=>
     change Two (Akc xs σ (Y9 P x ds σ (Ajy P A K nx true)) A) (Ajy P A K (.alt j y ys es ny oy) false σ) at h
     obtain ⟨h1,h2⟩:=Af3 h.h.1
     exact ⟨⟨h1,Kw (fun _=>ih1) (Aaa h2)⟩,ih2 h.h.2⟩
def Aqs:List Nat→(St→Prop)→St→Prop
 | [],K,σ=>K σ
 | e::r,K,σ=>match look σ (e%100000) with
   | .val T=>FrzQ T (e/100000) fun T'=>Bt (At (e%100000) (.val T') (At (e%100000) .top σ)) (Aqs r K)
   | .ref q []=>(match look σ q with
     | .val T=>(match Nat.blt q 100000 with
       | true=>FrzQ T 0 fun T'=>Bt (At (e%100000) (.val T') (At (e%100000) .top (At q (.val T') (At q .top σ)))) (Aqs r K)
       | false=>Aqs r K σ)
     | _=>Aqs r K σ)
   | _=>Aqs r K σ
theorem Atm : ∀ {ss:List Nat} {K:St→Prop} {σ:St},Aqs ss K σ→K (Axz ss σ):=by
 intro ss
 induction ss with
 | nil=>intro K σ h;exact h
 | cons e r ih=>
   intro K σ h
   simp only [Aqs] at h
   simp only [Axz]
   split at h
   ·rename_i T hT
    obtain ⟨T',h1,h2⟩:=h.h
    subst h1
    rw [Az] at h2
    simp only [Alg,Ahe,hT]
    exact ih h2
   ·rename_i q hT
    split at h
    ·rename_i T hq
     split at h
     ·rename_i hb
      obtain ⟨T',h1,h2⟩:=h.h
      rw [Am] at h1
      subst h1
      rw [Az] at h2
      simp only [Alg,hT,hq,hb]
      exact ih h2
     ·rename_i hb
      simp only [Alg,hT,hq,hb]
      exact ih h
    ·rename_i hne
     have e2:Alg e σ=σ:=by
      simp only [Alg,hT]
     rw [e2]
     exact ih h
   ·rename_i hne hne2
    have e2:Alg e σ=σ:=by
     unfold Alg
     split
     ·rename_i q hq;exact absurd hq (hne2 q)
     ·unfold Ahe
      split
      ·rename_i V hV;exact absurd hV (hne V)
      ·rfl
    rw [e2]
    exact ih h
structure LoopQ (P:Program) (c:ACode) (Q:Ex→St→Prop) (σ:St):Prop where
 h:awp P (.loop c) Q σ
structure CutQ (P:Program) (c:ACode) (Q:Ex→St→Prop) (σ:St):Prop where
 h:awp P (.cut c) Q σ
def vc (P:Program):ACode→(Ex→St→Prop)→St→Prop
 | .skip,Q,σ=>Q .normal σ
 | .reg gs,Q,σ=>P7 P gs (Q .normal) σ
 | .dreg pre post,Q,σ=>Amw P (Sa pre) σ pre [] [] [] (P7 P post (Q .normal))
 | .dregp n0 ds pre post,Q,σ=>P7 P ((pre.take n0).map (·.1)) (fun σ1=>match Adv n0 (I9 ds σ1) with
   | true=>Bt (I9 ds σ1) fun σ2=>Bt (Vv n0) fun acc=>Amw P (Sa pre) σ2 (pre.drop n0) acc [] [] (P7 P post (Q .normal))
   | false=>False) σ
 | .seq a b,Q,σ=>vc P a (Z9 (vc P b Q) Q) σ
 | .cond x t e,Q,σ=>match Ag σ x with
   | .val (.bool b)=>Br b (Bt (A2r x true σ) (vc P t Q)) (Bt (A2r x false σ) (vc P e Q))
   | _=>False
 | .block i c,Q,σ=>vc P c (Apk i Q) σ
 | .loop c,Q,σ=>LoopQ P c Q σ
 | .exit i,Q,σ=>Q (.exit i) σ
 | .ret,Q,σ=>Q .ret σ
 | .drop ds c,Q,σ=>Bt (I9 ds σ) (vc P c Q)
 | .cut c,Q,σ=>CutQ P c Q σ
 | .dregl A pl,Q,σ=>Anq A (Ajy P A (Q .normal) pl true) σ
 | .frz ss c,Q,σ=>Aqs ss (vc P c Q) σ
theorem Aup {x:X} {b:Bool} {σ:St} (h:Ag σ x = .val (.bool b)):A2r x b σ=σ:=by
 cases x with
 | c v=>rfl
 | t s=>
   refine Pw ?_
   simp only [Ag] at h
   split at h
   ·rename_i v hv
    split at h
    ·cases h
    ·rw [hv];exact h
   ·exact h
theorem Yi {P:Program} : ∀ {c:ACode} {Q:Ex→St→Prop} {σ:St},vc P c Q σ→awp P c Q σ:=by
 intro c
 induction c with
 | skip=>intro Q σ h;exact h
 | reg gs=>intro Q σ h;exact Rj h
 | dreg pre post=>intro Q σ h;exact Sc (fun _=>Rj) (Aga rfl rfl (by simp) h)
 | dregp n0 ds pre post=>
   intro Q σ h
   refine Nu (fun σ1 h1=> ?_) (Rj h)
   split at h1
   ·rename_i hd
    rw [Az,Az] at h1
    refine ⟨hd,Sc (fun _=>Rj) (Aga (by simp) (by simp) (by simp) h1)⟩
   ·exact h1.elim
 | seq a b ih1 ih2=>
   intro Q σ h
   have h':vc P a (Z9 (vc P b Q) Q) σ:=h
   show awp P a (Z9 (awp P b Q) Q) σ
   exact Qo (Q:=Z9 (vc P b Q) Q) (M9 (fun _ hh=>ih2 hh) fun _ _=>id) (ih1 h')
 | cond x t e ih1 ih2=>
   intro Q σ h
   simp only [vc] at h
   simp only [awp]
   split at h
   ·rename_i b hb
    simp only [hb]
    refine ⟨fun e=> ?_,fun e=> ?_⟩
    ·subst e
     have:=h.t rfl
     rw [Az,Aup hb] at this
     exact ih1 this
    ·subst e
     have:=h.f rfl
     rw [Az,Aup hb] at this
     exact ih2 this
   ·exact h.elim
 | block i c ih=>intro Q σ h;exact ih h
 | loop c ih=>intro Q σ h;exact h.h
 | exit i=>intro Q σ h;exact h
 | ret=>intro Q σ h;exact h
 | drop ds c ih=>intro Q σ h;simp only [vc] at h;rw [Az] at h;exact ih h
 | cut c ih=>intro Q σ h;exact h.h
 | frz ss c ih=>intro Q σ h;simp only [vc] at h;exact ih (Atm h)
 | dregl A R=>intro Q σ h;exact Z6 (fun _=>Apc) (Al8 h)
theorem Ai6 {P:Program} {f N:Nat} {ac:ACode} {rs:List RS} {args:List V} {R:V→List V→Prop} (hf:A4 P f N ac rs=true) (hn:args.length≤N)
  (h:vc P ac (Arq N rs args R) (entry N 0 args)):Tri P f args R:=Ayp hf hn (Yi h)
def A2e {α:Type} (ks:List Nat) (st:α→St) (inv:α→Prop) (μ:α→Nat) (a:α) (σ:St):Prop := ∃b,restrict ks σ=st b∧inv b∧μ b<μ a
theorem LoopQ.by {α:Type} {P:Program} {c:ACode} {Q:Ex→St→Prop} {σ:St} (ks:List Nat) (st:α→St) (inv:α→Prop) (μ:α→Nat) (a0:α) (h0:restrict ks σ=st a0) (hi:inv a0)
  (hr : ∀a,inv a→vc P c (Z9 (A2e ks st inv μ a) Q) (st a)):LoopQ P c Q σ:=by
 refine ⟨Ax8 ks (fun n σ => ∃a,σ=st a∧inv a∧n=μ a) (μ a0) ⟨a0,h0,hi,rfl⟩ ?_⟩
 rintro n σ ⟨a,rfl,ha,rfl⟩
 refine Qo (M9 ?_ fun _ _=> .inl) (Yi (hr a ha))
 rintro σ' ⟨b,h1,h2,h3⟩
 exact ⟨μ b,h3,b,h1,h2,rfl⟩
def Ret (P:Program) (f:Nat) (vs:List V) (v:V):Prop:=Tri P f vs (fun r _=>r=v)
theorem A5 {P:Program} {f N:Nat} {ac:ACode} {rs:List RS} {args:List V} {v:V} (hf:A4 P f N ac rs=true) (hn:args.length≤N)
  (h:vc P ac (Arq N rs args fun r _=>r=v) (entry N 0 args)):Ret P f args v:=Ai6 hf hn h
abbrev Ae (n:Int):V:= .int .i64 n
end Go.Proofs.YtjcekpmojnnmbaaGreat.Ax
namespace Go.Proofs.YtjcekpmojnnmbaaGreat.Ax
open Go
noncomputable def ask {α:Type} (p:Prop) (x:Option α):Option α:=@ite _ p (Classical.propDecidable p) x none
def nth {α:Type} [Inhabited α] (xs:List α) (i:Nat):α:=xs.getD i default
theorem U3 {α:Type} {p:Prop} {x:Option α} {v:α}:ask p x=some v↔p∧x=some v:=by
 unfold ask;split<;>simp_all
theorem Af {α:Type} {p:Prop} {x:Option α} (h:p):ask p x=x:=by unfold ask;rw [if_pos h]
def Agg {σ τ:Type} (body:σ→Option (σ ⊕ τ)):Nat→σ→Option τ
 | 0,_=>none
 | n+1,s=>match body s with
   | none=>none
   | some (.inl s')=>Agg body n s'
   | some (.inr t)=>some t
theorem At6 {σ τ:Type} {body:σ→Option (σ ⊕ τ)} : ∀ {n m:Nat} {s:σ} {t:τ},n≤m→Agg body n s=some t→Agg body m s=some t:=by
 intro n
 induction n with
 | zero=>intro m s t _ h;cases h
 | succ n ih=>
   intro m s t hm h
   match m,hm with
   | m+1,hm=>
     simp only [Agg] at h ⊢
     split at h
     ·cases h
     ·exact ih (by omega) h
     ·exact h
open Classical in
noncomputable def Ao {σ τ:Type} (body:σ→Option (σ ⊕ τ)) (s:σ):Option τ:=if h : ∃t n,Agg body n s=some t then some (Classical.choose h) else none
theorem M4 {σ τ:Type} {body:σ→Option (σ ⊕ τ)} {s:σ} {t:τ}:Ao body s=some t ↔ ∃n,Agg body n s=some t:=by
 unfold Ao
 constructor
 ·intro h
  split at h
  ·rename_i hx
   cases h
   exact Classical.choose_spec hx
  cases h
 rintro ⟨n,hn⟩
 rw [dif_pos ⟨t,n,hn⟩]
 obtain ⟨m,hm⟩:=Classical.choose_spec (⟨t,n,hn⟩ : ∃t n,Agg body n s=some t)
 have h1:=At6 (Nat.le_max_left n m) hn
 have h2:=At6 (Nat.le_max_right n m) hm
 rw [h1] at h2
 exact h2.symm
theorem Are {σ τ:Type} (body:σ→Option (σ ⊕ τ)) (s:σ):Ao body s=(match body s with
  | none=>none
  | some (.inl s')=>Ao body s'
  | some (.inr t)=>some t):=by
 apply Option.ext
 intro t
 rw [M4]
 constructor
 ·rintro ⟨n,hn⟩
  cases n with
  | zero=>cases hn
  | succ n=>
    simp only [Agg] at hn
    split at hn
    ·cases hn
    ·exact M4.2 ⟨n,hn⟩
    ·exact hn
 intro h
 split at h
 ·cases h
 ·rename_i s' e
  obtain ⟨n,hn⟩:=M4.1 h
  exact ⟨n+1,by simp only [Agg,e];exact hn⟩
 rename_i t' e
 exact ⟨1,by simp only [Agg,e];exact h⟩
abbrev Au (α:Type):List α:=[]
abbrev slr {α:Type} (o:Bool) (m:Nat) (f:α→V) (xs:List α):V:= .sl o m (xs.map f)
class Fz {α:Type} (f:α→V) (g:outParam (α→V)):Prop where
 eq : ∀x,(f x).fz=g x
instance {k:IntKind}:Fz (V.int k) (V.int k):=⟨fun _=>rfl⟩
instance:Fz Ae Ae:=⟨fun _=>rfl⟩
instance:Fz V.bool V.bool:=⟨fun _=>rfl⟩
instance:Fz V.str V.str:=⟨fun _=>rfl⟩
theorem Ab {α:Type} (f:α→V) {g:α→V} [Fz f g] (xs:List α):fzL (xs.map f)=xs.map g:=by
 induction xs with
 | nil=>rfl
 | cons x r ih=>simp [fzL,Fz.eq,ih]
instance {α:Type} (m:Nat) (f g:α→V) [Fz f g]:Fz (slr true m f) (slr false m g):=⟨fun x=>by simp [slr,V.fz,Ab]⟩
instance {α:Type} (m:Nat) (f:α→V):Fz (slr false m f) (slr false m f):=⟨fun x=>by simp [slr,V.fz]⟩
theorem Ac {α:Type} (m:Nat) (f:α→V) {g:α→V} [Fz f g] (xs:List α):V.fz (.sl true m (xs.map f)) = .sl false m (xs.map g):=by simp [V.fz,Ab]
theorem Ad {α:Type} (f:α→V) {g:α→V} [Fz f g] (x:α):V.fz (f x)=g x:=Fz.eq x
abbrev rA2 {α:Type} (f:α→V) (p:α×α):V:= .agg [f p.1,f p.2]
abbrev rA3 {α:Type} (f:α→V) (p:α×α×α):V:= .agg [f p.1,f p.2.1,f p.2.2]
abbrev rP {α:Type} (o:Bool) (f:α→V) (x:α):V:= .ptr o (f x)
abbrev rO {α:Type} (o:Bool) (f:α→V):Option α→V
 | none=> .nilp
 | some x=> .ptr o (f x)
abbrev rOl {α:Type} (m:Nat) (f:α→V):Option (List α)→V
 | none=> .nl m
 | some xs=> .sl false m (xs.map f)
abbrev rMp {β:Type} (o:Bool) (f:β→Lf) (l:List (ByteArray×β)):V:= .mp o (l.map fun e=>(e.1,f e.2))
instance {β:Type} (o:Bool) (f:β→Lf):Fz (rMp o f) (rMp false f):=⟨fun x=>by simp [V.fz]⟩
theorem LkQ.one {β:Type} (f:β→Lf) (g:β→V) (l:List (ByteArray×β)) (z0:β) {es:List (ByteArray×Lf)} {s:ByteArray} {z:Lf} {K:V→Prop} (e:es=l.map fun e=>(e.1,f e.2)) (hz:z=f z0) (hg : ∀b,(f b).v=g b)
  (h:K (g ((Fg l s).getD z0))):LkQ es s z false K:=by
 subst e;subst hz
 refine ⟨?_⟩
 unfold Asa
 rw [Ad8,Option.getD_map,hg]
 exact h
theorem LkQ.two {β:Type} (f:β→Lf) (g:β→V) (l:List (ByteArray×β)) (z0:β) {es:List (ByteArray×Lf)} {s:ByteArray} {z:Lf} {K:V→Prop} (e:es=l.map fun e=>(e.1,f e.2)) (hz:z=f z0) (hg : ∀b,(f b).v=g b)
  (h:K (.tup [g ((Fg l s).getD z0),.bool (Fg l s).isSome])):LkQ es s z true K:=by
 subst e;subst hz
 refine ⟨?_⟩
 unfold Asa
 rw [Ad8,Option.getD_map,hg,Option.isSome_map]
 exact h
theorem MsQ.o {β:Type} (f:β→Lf) (l:List (ByteArray×β)) (b:β) {es:List (ByteArray×Lf)} {s:ByteArray} {x:Lf} {K:List (ByteArray×Lf)→Prop} (e:es=l.map fun e=>(e.1,f e.2)) (hx:x=f b)
  (h:K ((Lx l s b).map fun e=>(e.1,f e.2))):MsQ es s x K:=by
 subst e;subst hx
 exact ⟨by rw [Am7];exact h⟩
theorem BsQ.o (ns:List Int) {xs:List V} {K:ByteArray→Prop} (e:xs=ns.map (V.int .u8)) (h:K (Wq ns)):BsQ xs K:=by
 subst e
 exact ⟨ns,Ar1 ns,h⟩
instance {α:Type} (f g:α→V) [Fz f g]:Fz (rP true f) (rP false g):=⟨fun x=>by simp [V.fz,Fz.eq]⟩
instance {α:Type} (m:Nat) (f:α→V):Fz (rOl m f) (rOl m f):=⟨fun x=>by cases x<;>simp [rOl,V.fz]⟩
instance {α:Type} (f g:α→V) [Fz f g]:Fz (rO true f) (rO false g):=⟨fun x=>by cases x<;>simp [rO,V.fz,Fz.eq]⟩
instance {α:Type} (f g:α→V) [Fz f g]:Fz (rA2 f) (rA2 g):=⟨fun x=>by simp [V.fz,fzL,Fz.eq]⟩
instance {α:Type} (f g:α→V) [Fz f g]:Fz (rA3 f) (rA3 g):=⟨fun x=>by simp [V.fz,fzL,Fz.eq]⟩
def One {α:Type} (f:α→V):Prop := ∀x,(f x).cells=[f x]∧(f x).isAgg=false
def U0 {α:Type} (m:Nat) (f:α→V):Prop := ∀x,(f x).cells.length=m∧C5 (f x).cells=true
section
variable {α ρ:Type} {v:ρ} {x y:Option ρ} {X Y:Prop}
theorem Br.od {p:Prop} [Decidable p] (h:(if p then x else y)=some v) (h1:p→x=some v→X) (h2:¬p→y=some v→Y):Br (decide p) X Y:=by
 by_cases hp:p
 ·rw [if_pos hp] at h;exact ⟨fun _=>h1 hp h,fun e=>absurd hp (of_decide_eq_false e)⟩
 rw [if_neg hp] at h;exact ⟨fun e=>absurd (of_decide_eq_true e) hp,fun _=>h2 hp h⟩
theorem Br.oe {a b:Int} (h:(if a=b then x else y)=some v) (h1:a=b→x=some v→X) (h2:¬a=b→y=some v→Y):Br (a==b) X Y:=by
 have:(a==b)=decide (a=b):=by rw [Bool.eq_iff_iff];simp
 rw [this];exact Br.od h h1 h2
theorem Br.on {a b:Int} (h:(if a≠b then x else y)=some v) (h1:a≠b→x=some v→X) (h2:¬a≠b→y=some v→Y):Br (a != b) X Y:=by
 have:(a != b)=decide (a≠b):=by rw [Bool.eq_iff_iff];simp
 rw [this];exact Br.od h h1 h2
theorem Br.ob {b:Bool} (h:(if b=true then x else y)=some v) (h1:b=true→x=some v→X) (h2:¬b=true→y=some v→Y):Br b X Y:=by
 cases b
 ·exact ⟨fun e=>Bool.noConfusion e,fun _=>h2 (by simp) (by simpa using h)⟩
 exact ⟨fun _=>h1 rfl (by simpa using h),fun e=>Bool.noConfusion e⟩
theorem Br.flip {b:Bool} (h:Br b Y X):Br (!b) X Y:=by
 cases b
 ·exact ⟨fun _=>h.f rfl,fun e=>Bool.noConfusion e⟩
 exact ⟨fun e=>Bool.noConfusion e,fun _=>h.t rfl⟩
theorem Ask.o {p:Prop} (h:ask p x=some v) (hk:p→x=some v→X):Ask p X:=by
 obtain ⟨h1,h2⟩:=U3.1 h
 exact ⟨h1,hk h1 h2⟩
theorem Idx.o {j:Int} {lo n:Nat} {K:Int→Prop} (h:(if j=lo then x else y)=some v) (h1:x=some v→K lo) (h2:y=some v→Idx j (lo+1) n K):Idx j lo n K:=by
 refine ⟨fun a b=> ?_⟩
 by_cases hj:j=lo
 ·rw [if_pos hj] at h;rw [hj];exact h1 h
 rw [if_neg hj] at h;exact (h2 h).h (by omega) b
theorem Idx.last {j:Int} {lo n:Nat} {K:Int→Prop} (e:lo+1=n) (h1:K lo):Idx j lo n K:=by
 refine ⟨fun a b=> ?_⟩
 have:j=lo:=by omega
 rw [this];exact h1
theorem Idx.lit {j:Int} {lo n:Nat} {K:Int→Prop} (h:K j):Idx j lo n K:=⟨fun _ _=>h⟩
theorem Len.mrep {f:α→V} {w:α} {n:Nat} {K:Nat→Prop} (h:K n):Len ((List.replicate n w).map f) K:=⟨by rw [List.length_map,List.length_replicate];exact h⟩
theorem Len.nil {K:Nat→Prop} (h:K 0):Len [] K:=⟨h⟩
theorem Len.cons {u:V} {us:List V} {K:Nat→Prop} (h:Len us fun n=>K (n+1)):Len (u::us) K:=⟨h.h⟩
variable {f:α→V}
theorem A1n [Inhabited α] (f:α→V) {xs:List α} {j:Nat} (hj:j<xs.length):(xs.map f).getD j .dead=f (nth xs j):=by
 simp [List.getD_eq_getElem?_getD,nth,hj]
theorem Elem.o [Inhabited α] {xs:List α} {j:Nat} {K:V→Prop} (hj:j<xs.length) (hk:K (f (nth xs j))):Elem (xs.map f) j K:=⟨by rw [A1n f hj];exact hk⟩
theorem Acu (hf:One f) (xs:List α):Bg (xs.map f)=xs.map f:=by
 induction xs with
 | nil=>rfl
 | cons x r ih=>simp only [List.map_cons,Bg,(hf x).1,ih];rfl
theorem Ay2 [Inhabited α] (f:α→V) {xs:List α} {c:Nat} (hc:c<xs.length):(xs.map f).drop c=f (nth xs c)::(xs.map f).drop (c+1):=by
 rw [List.drop_eq_getElem_cons (by simpa using hc)]
 simp [nth,List.getD_eq_getElem?_getD,hc]
theorem Cells.one [Inhabited α] (hf:One f) {xs:List α} {c:Nat} {K:List V→Prop} (hc:c<xs.length) (hk:K [f (nth xs c)]):Cells (Bg (xs.map f)) c 1 K:=by
 refine ⟨_,?_,?_,hk⟩
 ·rw [Acu hf,List.length_map];exact hc
 rw [Acu hf,Ay2 f hc];rfl
theorem Am0 [Inhabited α] {m:Nat} (hf:U0 m f) : ∀ {xs:List α} {i:Nat},i<xs.length → ∃l r,Bg (xs.map f)=l++((f (nth xs i)).cells++r)∧l.length=i*m:=by
 intro xs
 induction xs with
 | nil=>intro i h;simp at h
 | cons x t ih=>
   intro i h
   cases i with
   | zero=>exact ⟨[],Bg (t.map f),rfl,by simp⟩
   | succ i=>
     obtain ⟨l,r,e,hl⟩:=ih (i:=i) (by simpa using h)
     refine ⟨(f x).cells++l,r,by simp only [List.map_cons,Bg,e,List.append_assoc];rfl,?_⟩
     rw [List.length_append,(hf x).1,hl,Nat.succ_mul];omega
theorem Cells.wide [Inhabited α] {m:Nat} (hf:U0 m f) {xs:List α} {i off n:Nat} {K:List V→Prop} (hi:i<xs.length) (hn:off+n≤m) (hk:K (((f (nth xs i)).cells.drop off).take n)) :
  Cells (Bg (xs.map f)) (Be i m+off) n K:=by
 obtain ⟨l,r,e,hl⟩:=Am0 hf hi
 have hw:=(hf (nth xs i)).1
 refine ⟨_,?_,?_,hk⟩
 ·rw [e,Ss,List.length_append,List.length_append,hl,hw];omega
 rw [e,Ss,←hl,←List.drop_drop,List.drop_left,List.drop_append_of_le_length (by omega),List.take_append_of_le_length (by simp;omega)]
theorem Cells.lit {xs us:List V} {c n:Nat} {K:List V→Prop} (h:Nat.ble (c+n) xs.length=true) (e:(xs.drop c).take n=us) (hk:K us):Cells xs c n K:=⟨us,Nat.le_of_ble_eq_true h,e,hk⟩
theorem Kid.one [Inhabited α] (hf:One f) {m:Nat} {xs:List α} {c:Nat} {K:V→Prop} (hc:c<xs.length) (hk:K (f (nth xs c))):Kid (.sl true m (xs.map f)) c K:=
 ⟨_,rfl,by simp only [V.kids,Acu hf];simp [nth,List.getD_eq_getElem?_getD,hc],hk⟩
theorem Kid.wide [Inhabited α] {m:Nat} (hf:U0 m f) {xs:List α} {i off:Nat} {u:V} {K:V→Prop} (hi:i<xs.length) (hu:(f (nth xs i)).cells[off]? = some u) (hk:K u):Kid (.sl true m (xs.map f)) (Be i m+off) K:=by
 obtain ⟨l,r,e,hl⟩:=Am0 hf hi
 refine ⟨u,rfl,?_,hk⟩
 have ho:off<(f (nth xs i)).cells.length:=(List.getElem?_eq_some_iff.1 hu).1
 simp only [V.kids,e]
 rw [Ss,List.getElem?_append_right (by omega),hl,Nat.add_sub_cancel_left,List.getElem?_append_left ho,hu]
theorem Kid.lit {T k:V} {c:Nat} {K:V→Prop} (h1:T.stepOk=true) (h2:T.kids[c]? = some k) (hk:K k):Kid T c K:=⟨k,h1,h2,hk⟩
theorem Av5 (hf:One f) : ∀ {xs:List α} {c:Nat} (w:α),c<xs.length→N6 (xs.map f) c [f w]=some ((xs.set c w).map f):=by
 intro xs
 induction xs with
 | nil=>intro c w h;simp at h
 | cons x r ih=>
   intro c w h
   have hlen:(f x).cells.length=1:=by rw [(hf x).1];rfl
   simp only [List.map_cons,N6,hlen]
   cases c with
   | zero=>
     have:(f x).setCells 0 [f w]=some (f w):=by
      have hx:=(hf x).2
      have hv:=(hf w).2
      unfold V.setCells
      split
      ·simp_all [V.isAgg]
      ·simp [Ai7,hv]
     simp [this]
   | succ c=>
     have:=ih (c:=c) w (by simpa using h)
     simp [this]
theorem Ar4 (hf:One f) : ∀ {xs:List α} {c:Nat} (w:α),c<xs.length→N6 ((xs.map f).set c .dead) c [f w]=some ((xs.set c w).map f):=by
 intro xs
 induction xs with
 | nil=>intro c w h;simp at h
 | cons x r ih=>
   intro c w h
   have hlen:(f x).cells.length=1:=by rw [(hf x).1];rfl
   cases c with
   | zero=>
     simp only [List.map_cons,List.set_cons_zero,N6]
     simp [V.cells,V.setCells,Ai7,(hf w).2]
   | succ c=>
     have:=ih (c:=c) w (by simpa using h)
     simp [N6,hlen,this]
theorem SetKids.fill (hf:One f) {o:Bool} {m:Nat} {xs:List α} {c:Nat} {us:List V} {K:V→Prop} (w:α) (e:us=[f w]) (hc:c<xs.length) (hk:K (.sl o m ((xs.set c w).map f))):SetKids (.sl o m (A1t f xs c)) c us K:=by
 subst e
 exact ⟨_,by simp only [V.setKids,A1t,Ar4 hf w hc,Option.map_some],hk⟩
theorem SetKids.one (hf:One f) {o:Bool} {m:Nat} {xs:List α} {c:Nat} {us:List V} {K:V→Prop} (w:α) (e:us=[f w]) (hc:c<xs.length) (hk:K (.sl o m ((xs.set c w).map f))):SetKids (.sl o m (xs.map f)) c us K:=by
 subst e
 exact ⟨_,by simp only [V.setKids,Av5 hf w hc,Option.map_some],hk⟩
theorem Asp [Inhabited α] {m:Nat} (hf:U0 m f) : ∀ {xs:List α} {i off:Nat} {us:List V} (w:α),i<xs.length→(f (nth xs i)).setCells off us=some (f w)→off<m→N6 (xs.map f) (i*m+off) us=some ((xs.set i w).map f):=by
 intro xs
 induction xs with
 | nil=>intro i off us w h;simp at h
 | cons x r ih=>
   intro i off us w h hs ho
   simp only [List.map_cons,N6,(hf x).1]
   cases i with
   | zero=>
     have hs':(f x).setCells off us=some (f w):=hs
     simp [ho,hs']
   | succ i=>
     have:=ih (i:=i) (off:=off) (us:=us) w (by simpa using h) hs ho
     rw [if_neg (by rw [Nat.succ_mul];omega),show (i+1)*m+off-m=i*m+off by rw [Nat.succ_mul];omega,this]
     simp
theorem SetKids.wide [Inhabited α] {m:Nat} (hf:U0 m f) {o:Bool} {xs:List α} {i off:Nat} {us:List V} {K:V→Prop} (w:α) (hi:i<xs.length) (hs:(f (nth xs i)).setCells off us=some (f w)) (ho:off<m) (hk:K (.sl o m ((xs.set i w).map f))) :
  SetKids (.sl o m (xs.map f)) (Be i m+off) us K:=
 ⟨_,by simp only [V.setKids,Ss,Asp hf w hi hs ho,Option.map_some],hk⟩
theorem Apv [Inhabited α] {m:Nat} (hf:U0 m f) : ∀ {xs:List α} {i off:Nat} {us:List V} {v:V},i<xs.length→(f (nth xs i)).setCells off us=some v→off<m→N6 (xs.map f) (i*m+off) us=some (holeW f xs i v):=by
 intro xs
 induction xs with
 | nil=>intro i off us v h;simp at h
 | cons x r ih=>
   intro i off us v h hs ho
   simp only [List.map_cons,N6,(hf x).1,holeW]
   cases i with
   | zero=>
     have hs':(f x).setCells off us=some v:=hs
     simp [ho,hs']
   | succ i=>
     have:=ih (i:=i) (off:=off) (us:=us) (v:=v) (by simpa using h) hs ho
     rw [if_neg (by rw [Nat.succ_mul];omega),show (i+1)*m+off-m=i*m+off by rw [Nat.succ_mul];omega,this]
     simp [holeW]
theorem Arn {m:Nat} (hf:U0 m f) : ∀ {xs:List α} {i off:Nat} {us:List V} {v:V} (w:α),i<xs.length→v.cells.length=m→v.setCells off us=some (f w)→off<m→N6 (holeW f xs i v) (i*m+off) us=some ((xs.set i w).map f):=by
 intro xs
 induction xs with
 | nil=>intro i off us v w h;simp at h
 | cons x r ih=>
   intro i off us v w h hv hs ho
   cases i with
   | zero=>simp [holeW,N6,hv,ho,hs]
   | succ i=>
     have:=ih (i:=i) (off:=off) (us:=us) (v:=v) w (by simpa using h) hv hs ho
     simp only [holeW,List.map_cons,List.set_cons_succ,N6,(hf x).1] at this ⊢
     rw [if_neg (by rw [Nat.succ_mul];omega),show (i+1)*m+off-m=i*m+off by rw [Nat.succ_mul];omega,this]
     simp
theorem Len.holeW {xs:List α} {i:Nat} {v:V} {K:Nat→Prop} (h:K xs.length):Len (holeW f xs i v) K:=⟨by simp only [Ax.holeW,List.length_set,List.length_map];exact h⟩
theorem SetKids.mkholeW [Inhabited α] {m:Nat} (hf:U0 m f) {o:Bool} {xs:List α} {i off:Nat} {us:List V} {K:V→Prop} (v:V) (hi:i<xs.length) (hs:(f (nth xs i)).setCells off us=some v) (ho:off<m) (hk:K (.sl o m (holeW f xs i v))) :
  SetKids (.sl o m (xs.map f)) (Be i m+off) us K:=
 ⟨_,by simp only [V.setKids,Ss,Apv hf hi hs ho,Option.map_some],hk⟩
theorem SetKids.fillW {m:Nat} (hf:U0 m f) {o:Bool} {xs:List α} {i off:Nat} {us:List V} {v:V} {K:V→Prop} (w:α) (hi:i<xs.length) (hv:v.cells.length=m) (hs:v.setCells off us=some (f w)) (ho:off<m) (hk:K (.sl o m ((xs.set i w).map f))) :
  SetKids (.sl o m (holeW f xs i v)) (Be i m+off) us K:=
 ⟨_,by simp only [V.setKids,Ss,Arn hf w hi hv hs ho,Option.map_some],hk⟩
theorem SetKids.lit {T T':V} {c:Nat} {us:List V} {K:V→Prop} (h:T.setKids c us=some T') (hk:K T'):SetKids T c us K:=⟨T',h,hk⟩
theorem MkQ.o {d n:Nat} {z:V} {K:List V→Prop} (f:α→V) (w:α) (e:z=f w) (hk:K ((List.replicate n w).map f)):MkQ d n z K:=⟨by rw [e,←List.map_replicate];exact hk⟩
theorem Ar7 {m:Nat} (hf:U0 m f) (ws:List α):Og m (ws.map f)=true:=by
 induction ws with
 | nil=>rfl
 | cons w r ih=>simp [Og,(hf w).1,(hf w).2,ih]
theorem BslQ.o {d m:Nat} {us:List V} {K:List V→Prop} (f:α→V) (ws:List α) (hf:U0 m f) (e:us=ws.map f) (hk:K (ws.map f)):BslQ d m us K:=by
 subst e;exact ⟨Ar7 hf ws,hk⟩
theorem BslQ.lit {d m:Nat} {us:List V} {K:List V→Prop} (e:Og m us=true) (hk:K us):BslQ d m us K:=⟨e,hk⟩
theorem Apf {m:Nat} (hf:U0 m f) (ws:List α):C5 (Bg (ws.map f))=true:=by
 induction ws with
 | nil=>rfl
 | cons w r ih=>
   have:=(hf w).2
   simp only [C5,List.map_cons,Bg,List.all_append,Bool.and_eq_true] at this ih ⊢
   exact ⟨this,ih⟩
theorem AppQ.o {m d:Nat} {us vs:List V} {K:List V→Prop} (f:α→V) (hf:U0 m f) (xs ys:List α) (ex:us=xs.map f) (ey:vs=ys.map f) (h:ask (xs.length+ys.length≤LIM) x=some v) (hk:x=some v→K ((xs++ys).map f)):AppQ d us vs K:=by
 subst ex;subst ey
 obtain ⟨h1,h2⟩:=U3.1 h
 exact ⟨Apf hf ys,by simpa using h1,by rw [←List.map_append];exact hk h2⟩
theorem Agh (hf : ∀x,A9 (f x).cells=false) (ws:List α):A9 (Bg (ws.map f))=false:=by
 induction ws with
 | nil=>rfl
 | cons w r ih=>simp only [List.map_cons,Bg,Gj,hf w,ih];rfl
theorem SlcQ.o {l h:Int} {xs:List α} {K:List V→Prop} (f:α→V) (hh:ask (0≤l∧l≤h∧h≤(xs.length:Int)) x=some v) (hk:x=some v→K (((xs.drop l.toNat).take (h.toNat-l.toNat)).map f)):SlcQ (xs.map f) l h K:=by
 obtain ⟨⟨h1,h2,h3⟩,h4⟩:=U3.1 hh
 exact ⟨h1,h2,by simpa using h3,by rw [←List.map_drop,←List.map_take];exact hk h4⟩
theorem NoOwn.o (hf : ∀x,A9 (f x).cells=false) {ws:List α} (h:X):NoOwn (ws.map f) X Y:=⟨.inl ⟨Agh hf ws,h⟩⟩
theorem NoOwn.lit {us:List V} (e:A9 (Bg us)=false) (h:X):NoOwn us X Y:=⟨.inl ⟨e,h⟩⟩
theorem NoOwn.own {us:List V} (e:A9 (Bg us)=true) (h:Y):NoOwn us X Y:=⟨.inr ⟨e,h⟩⟩
end
def Rc (P:Program) (f:Nat) (vs:List V) (v:V) (k:Nat) (u:V):Prop:=Tri P f vs (fun r o=>r=v∧o[k]? = some u)
theorem Y7 {P:Program} {f N:Nat} {ac:ACode} {rs:List RS} {args:List V} {v u:V} {k:Nat} (hf:A4 P f N ac rs=true) (hn:args.length≤N)
  (h:vc P ac (Arq N rs args fun r o=>r=v∧o[k]? = some u) (entry N 0 args)):Rc P f args v k u:=Ai6 hf hn h
theorem RdL.drop {w:World} {O:Nat→Prop} : ∀(k:Nat) {os:List V} {us:List Value} {fp:List Nat},RdL w O os us fp → ∃fp',RdL w O (os.set k .dead) us fp'∧List.Sublist fp' fp
 | _,_,_,_,.nil=>⟨[],.nil,.slnil⟩
 | 0,_,_,_,.leaf _ t=>⟨_,.leaf (.dead _) t,.refl _⟩
 | 0,_,_,_,.grp _ _ t=>⟨_,.leaf (.dead _) t,List.sublist_append_right _ _⟩
 | 0,_,_,_,.fblk _ _ _ _ t=>⟨_,.leaf (.dead _) t,.refl _⟩
 | 0,_,_,_,.oblk _ _ _ _ _ t=>⟨_,.leaf (.dead _) t,(List.sublist_append_right _ _).cons _⟩
 | 0,_,_,_,.mpf _ _ _ t=>⟨_,.leaf (.dead _) t,.refl _⟩
 | 0,_,_,_,.mpo _ _ _ t=>⟨_,.leaf (.dead _) t,(List.Sublist.refl _).cons _⟩
 | k+1,_,_,_,.leaf h t=>let ⟨_,a,b⟩:=RdL.drop k t;⟨_,.leaf h a,b⟩
 | k+1,_,_,_,.grp h s t=>let ⟨_,a,b⟩:=RdL.drop k t;⟨_,.grp h s a,(List.Sublist.refl _).append b⟩
 | k+1,_,_,_,.fblk h hc hO s t=>let ⟨_,a,b⟩:=RdL.drop k t;⟨_,.fblk h hc hO s a,b⟩
 | k+1,_,_,_,.oblk h hb hO hk s t=>let ⟨_,a,b⟩:=RdL.drop k t;⟨_,.oblk h hb hO hk s a,((List.Sublist.refl _).append b).cons_cons _⟩
 | k+1,_,_,_,.mpf hb he hO t=>let ⟨_,a,b⟩:=RdL.drop k t;⟨_,.mpf hb he hO a,b⟩
 | k+1,_,_,_,.mpo hb he hO t=>let ⟨_,a,b⟩:=RdL.drop k t;⟨_,.mpo hb he hO a,b.cons_cons _⟩
theorem Tri.drop {P:Program} {f:Nat} {args:List V} {k:Nat} {R:V→List V→Prop} (h:Tri P f args fun r o=>R r (o.set k .dead)):Tri P f args R:=by
 intro w O vals fp h1 h2
 obtain ⟨h3,h4⟩:=h w O vals fp h1 h2
 refine ⟨h3,h4.mono ?_⟩
 rintro e w' ⟨res,outs,rv,O',fpr,fpo,hR,he,r1,ro,hnd,hm⟩
 obtain ⟨fp',a,b⟩:=RdL.drop k ro
 have hs:List.Sublist (fpr++fp') (fpr++fpo):=(List.Sublist.refl _).append b
 exact ⟨res,_,rv,O',fpr,fp',hR,he,r1,a,hs.nodup hnd,⟨hm.os,hm.tape,hm.output,hm.size,hm.same,fun b hb=>hm.new b (hs.subset hb)⟩⟩
theorem Azw {P:Program} {f N:Nat} {ac:ACode} {rs:List RS} {args:List V} {v:V} {k:Nat} (hf:A4 P f N ac rs=true) (hn:args.length≤N)
  (h:vc P ac (Arq N rs args fun r o=>r=v∧(o.set k .dead)[k]? = some .dead) (entry N 0 args)):Rc P f args v k .dead:=Tri.drop (Ai6 hf hn h)
theorem Tri.freeze {P:Program} {f:Nat} {args:List V} {R:V→List V→Prop} (h:Tri P f args fun r o=>R r.fz o):Tri P f args R:=by
 intro w O vals fp h1 h2
 obtain ⟨h3,h4⟩:=h w O vals fp h1 h2
 refine ⟨h3,h4.mono ?_⟩
 rintro e w' ⟨res,outs,rv,O',fpr,fpo,hR,he,r1,ro,hnd,hm⟩
 have hd:=List.nodup_append.1 hnd
 have hnew : ∀b,b∈fpr→b∈fp∨w.heap.size≤b:=fun b hb=>hm.new b (by simp [hb])
 refine ⟨res.fz,outs,rv,fun b=>O' b∧b∉fpr,[],fpo,hR,he,?_,?_,by simpa using hd.2.1,⟨hm.os,hm.tape,hm.output,hm.size,fun b hb hS=> ?_,fun b hb=>hm.new b (by simpa using Or.inr (by simpa using hb))⟩⟩
 ·have:=r1.fz (O2:=fun b=>O' b∧b∉fpr) (fun b hb hh=>hh.2 hb) (fun b hb _ hh=>hb hh.1)
  simpa [fzL] using this
 ·exact ro.frame (fun b hb=>⟨rfl,(ro.fpO b hb).1,fun hh=>hd.2.2 b hh b hb rfl⟩) (fun b hb _=>⟨rfl,fun hh=>hb hh.1⟩)
 have:=hm.same b hb hS
 refine ⟨this.1,⟨fun hh=>this.2.1 hh.1,fun hh=>⟨this.2.2 hh,fun hf=> ?_⟩⟩⟩
 rcases hnew b hf with h5 | h5
 ·exact hS h5
 omega
theorem Uw {P:Program} {f N:Nat} {ac:ACode} {rs:List RS} {args:List V} {v:V} (hf:A4 P f N ac rs=true) (hn:args.length≤N)
  (h:vc P ac (Arq N rs args fun r _=>r.fz=v) (entry N 0 args)):Ret P f args v:=Tri.freeze (R:=fun r _=>r=v) (Ai6 hf hn h)
theorem Afc {P:Program} {f N:Nat} {ac:ACode} {rs:List RS} {args:List V} {v u:V} {k:Nat} (hf:A4 P f N ac rs=true) (hn:args.length≤N)
  (h:vc P ac (Arq N rs args fun r o=>r.fz=v∧o[k]? = some u) (entry N 0 args)):Rc P f args v k u:=Tri.freeze (R:=fun r o=>r=v∧o[k]? = some u) (Ai6 hf hn h)
theorem Ret.frz {P:Program} {f:Nat} {vs:List V} {v v':V} (h:Ret P f vs v) (e:v.fz=v'):Ret P f vs v':=
 Tri.freeze (R:=fun r _=>r=v') (Tri.mono h fun r _ hr=>by rw [show r=v from hr];exact e)
theorem Rc.frz {P:Program} {f k:Nat} {vs:List V} {v v' u:V} (h:Rc P f vs v k u) (e:v.fz=v'):Rc P f vs v' k u:=
 Tri.freeze (R:=fun r o=>r=v'∧o[k]? = some u) (Tri.mono h fun r _ hr=>⟨by rw [show r=v from hr.1];exact e,hr.2⟩)
theorem Ret.cast {P:Program} {f:Nat} {vs vs':List V} {v:V} (e:vs=vs') (h:Ret P f vs v):Ret P f vs' v:=e▸h
class NoFz {α:Type} (f:α→V):Prop where
 eq : ∀x,(f x).noFz=true
instance {k:IntKind}:NoFz (V.int k):=⟨fun _=>rfl⟩
instance:NoFz Ae:=⟨fun _=>rfl⟩
instance:NoFz V.bool:=⟨fun _=>rfl⟩
instance:NoFz V.str:=⟨fun _=>rfl⟩
theorem Cd {α:Type} {f:α→V} [NoFz f] (xs:List α):Cb (xs.map f)=true:=by
 induction xs with
 | nil=>rfl
 | cons x r ih=>simp [Cb,NoFz.eq,ih]
instance {α:Type} (m:Nat) (f:α→V) [NoFz f]:NoFz (slr true m f):=⟨fun x=>by simp [V.noFz,Cd]⟩
instance {β:Type} (f:β→Lf):NoFz (rMp true f):=⟨fun x=>by simp [V.noFz]⟩
instance {α:Type} (f:α→V) [NoFz f]:NoFz (rP true f):=⟨fun x=>by simp [V.noFz,NoFz.eq]⟩
instance {α:Type} (f:α→V) [NoFz f]:NoFz (rO true f):=⟨fun x=>by cases x<;>simp [V.noFz,NoFz.eq]⟩
instance {α:Type} (f:α→V) [NoFz f]:NoFz (rA2 f):=⟨fun x=>by simp [V.noFz,Cb,NoFz.eq]⟩
instance {α:Type} (f:α→V) [NoFz f]:NoFz (rA3 f):=⟨fun x=>by simp [V.noFz,Cb,NoFz.eq]⟩
section
variable {P:Program} {K:St→Prop} {σ:St} {β ρ:Type} {v:ρ} {oo:Option β} {k:β→Option ρ}
theorem CallQ.o (rep:β→V) {vs vs':List V} {f d:Nat} (e:vs=vs') (h:oo.bind k=some v) (hr : ∀r,oo=some r→Ret P f vs' (rep r)) (hk : ∀r,k r=some v→Bt (At d (.val (rep r)) σ) K):CallQ P f d vs [] [] K σ:=by
 subst e
 obtain ⟨r,h1,h2⟩:=Option.bind_eq_some_iff.1 h
 have h3:=hk r h2
 rw [Az] at h3
 refine ⟨rfl,Tri.mono (hr r h1) ?_⟩
 rintro r o rfl
 exact ⟨rfl,h3⟩
theorem CallQ.rd (rep:β→V) {vs vs':List V} {rs:List Nat} {f d:Nat} (e:vs=vs') (hn : ∀r,(rep r).noFz=true) (h:oo.bind k=some v) (hr : ∀r,oo=some r→Ret P f vs' (rep r)) (hk : ∀r,k r=some v→Bt (At d (.val (rep r)) σ) K):CallQ P f d vs [] rs K σ:=by
 subst e
 obtain ⟨r,h1,h2⟩:=Option.bind_eq_some_iff.1 h
 have h3:=hk r h2
 rw [Az] at h3
 refine ⟨rfl,Tri.mono (hr r h1) ?_⟩
 rintro r' o rfl
 exact ⟨by simp [D0,hn r],h3⟩
theorem CloQ.o (rep:β→V) {vs vs' cs:List V} {rs:List Nat} {f d:Nat} (e:vs++fzL cs=vs') (hn : ∀r,D0 rs (rep r)=true) (h:oo.bind k=some v) (hr : ∀r,oo=some r→Ret P f vs' (rep r)) (hk : ∀r,k r=some v→Bt (At d (.val (rep r)) σ) K):CloQ P f d cs vs rs K σ:=by
 subst e
 obtain ⟨r,h1,h2⟩:=Option.bind_eq_some_iff.1 h
 have h3:=hk r h2
 rw [Az] at h3
 refine ⟨Tri.mono (hr r h1) ?_⟩
 rintro r' o rfl
 exact ⟨hn r,h3⟩
theorem CloP.o (rep:β→V) {vs vs' cs:List V} {rs:List Nat} {f d:Nat} {K:V→Prop} (e:vs++fzL cs=vs') (hn : ∀r,D0 rs (rep r)=true) (h:oo.bind k=some v) (hr : ∀r,oo=some r→Ret P f vs' (rep r)) (hk : ∀r,k r=some v→K (rep r)):CloP P f d cs vs rs K:=by
 subst e
 obtain ⟨r,h1,h2⟩:=Option.bind_eq_some_iff.1 h
 exact ⟨_,Tri.mono (hr r h1) (by rintro r' _ rfl;exact ⟨rfl,hn r⟩),hk r h2⟩
theorem CallP.o (rep:β→V) {vs vs':List V} {f d:Nat} {K:V→Prop} (e:vs=vs') (h:oo.bind k=some v) (hr : ∀r,oo=some r→Ret P f vs' (rep r)) (hk : ∀r,k r=some v→K (rep r)):CallP P f d vs [] K:=by
 subst e
 obtain ⟨r,h1,h2⟩:=Option.bind_eq_some_iff.1 h
 exact ⟨_,Tri.mono (hr r h1) (by rintro r' _ rfl;exact ⟨rfl,rfl⟩),hk r h2⟩
theorem CallP.rd (rep:β→V) {vs vs':List V} {rs:List Nat} {f d:Nat} {K:V→Prop} (e:vs=vs') (hn : ∀r,(rep r).noFz=true) (h:oo.bind k=some v) (hr : ∀r,oo=some r→Ret P f vs' (rep r)) (hk : ∀r,k r=some v→K (rep r)):CallP P f d vs rs K:=by
 subst e
 obtain ⟨r,h1,h2⟩:=Option.bind_eq_some_iff.1 h
 exact ⟨_,Tri.mono (hr r h1) (by rintro r' _ rfl;exact ⟨rfl,by simp [D0,hn r]⟩),hk r h2⟩
theorem FrzQ.z {T:V} {K:V→Prop} (h:K T.fz):FrzQ T 0 K:=⟨_,Am T,h⟩
theorem FrzQ.d {T:V} {n:Nat} {K:V→Prop} (T':V) (e:T.fzAt n=T') (h:K T'):FrzQ T n K:=⟨_,e,h⟩
theorem LendP.io {γ:Type} {o:Option (β×γ)} {k:β×γ→Option ρ} (rep:β→V) (rep2:γ→V) {vs vs':List V} {rs:List Nat} {f d j:Nat} {T:V} {K:V→V→Prop} (e:vs=vs')
  (hn : ∀b,D0 rs (rep b)=true) (hn2 : ∀b,D0 rs (rep2 b)=true∧(rep2 b).node=true) (hu : ∀u,upd [] T u=some u) (h:o.bind k=some v) (hr : ∀x,o=some x→Rc P f vs' (rep x.1) j (rep2 x.2))
  (hk : ∀b c,k (b,c)=some v→K (rep b) (rep2 c)):LendP P f d vs rs j [] T K:=by
 subst e
 obtain ⟨⟨b,c⟩,h1,h2⟩:=Option.bind_eq_some_iff.1 h
 exact ⟨_,_,_,hr _ h1,⟨hn b,(hn2 c).1,(hn2 c).2,hu _⟩,hk b c h2⟩
theorem CallQ.io {γ:Type} {o:Option (β×γ)} {k:β×γ→Option ρ} (rep:β→V) (rep2:γ→V) {vs vs':List V} {rs:List Nat} {f d j r:Nat} {p:List Nat} {T:V} (e:vs=vs') (hroots:rs.contains r=false)
  (hn : ∀b,D0 rs (rep b)=true) (hn2 : ∀b,D0 rs (rep2 b)=true∧(rep2 b).node=true) (hT:look σ r = .val T) (h:o.bind k=some v) (hr : ∀x,o=some x→Rc P f vs' (rep x.1) j (rep2 x.2))
  (hk : ∀b c,k (b,c)=some v→R6 p T (rep2 c) fun T'=>Bt (At d (.val (rep b)) (Hp r T' (p.length+1) σ)) K):CallQ P f d vs [(j,r,p)] rs K σ:=by
 subst e
 obtain ⟨⟨b,c⟩,h1,h2⟩:=Option.bind_eq_some_iff.1 h
 obtain ⟨T',h3,h4⟩:=Jm (hk b c h2)
 rw [Az] at h4
 refine ⟨by simp only [Ib,hroots];rfl,Tri.mono (hr _ h1) ?_⟩
 rintro res outs ⟨rfl,ho⟩
 refine ⟨hn b,?_⟩
 rw [ho,hT]
 exact ⟨(hn2 c).1,by rw [h3];show K (At d _ (Hp r T' (p.length+K5 (rep2 c)) σ));rw [Yz (hn2 c).2];exact h4⟩
theorem CallQ.give (rep:β→V) {vs vs':List V} {rs:List Nat} {f d j r:Nat} {p:List Nat} {T:V} (e:vs=vs') (hroots:rs.contains r=false)
  (hn : ∀b,D0 rs (rep b)=true) (hT:look σ r = .val T) (h:oo.bind k=some v) (hr : ∀x,oo=some x→Rc P f vs' (rep x) j .dead)
  (hk : ∀b,k b=some v→R6 p T .dead fun T'=>Bt (At d (.val (rep b)) (Hp r T' p.length σ)) K):CallQ P f d vs [(j,r,p)] rs K σ:=by
 subst e
 obtain ⟨b,h1,h2⟩:=Option.bind_eq_some_iff.1 h
 obtain ⟨T',h3,h4⟩:=Jm (hk b h2)
 rw [Az] at h4
 refine ⟨by simp only [Ib,hroots];rfl,Tri.mono (hr _ h1) ?_⟩
 rintro res outs ⟨rfl,ho⟩
 refine ⟨hn b,?_⟩
 rw [ho,hT]
 exact ⟨by cases rs<;>rfl,by rw [h3];exact h4⟩
theorem LendQ.io {γ:Type} {o:Option (β×γ)} {k:β×γ→Option ρ} (rep:β→V) (rep2:γ→V) (cs:γ→List V) (fld:γ→V) {bs:List A} {vs vs':List V} {rs:List Nat} {f d j r:Nat} {p:List Nat} {T:V}
  (e:Arg 0 bs.length vs=vs') (hc : ∀c,rep2 c = .agg (cs c)) (hf : ∀c,(cs c)[j]? = some (fld c)) (hroots:rs.contains r=false)
  (hn : ∀b,D0 rs (rep b)=true) (hn2 : ∀b,D0 rs (fld b)=true∧(fld b).node=true) (hT:look σ r = .val T) (h:o.bind k=some v) (hr : ∀x,o=some x→Rc P f vs' (rep x.1) 0 (rep2 x.2))
  (hk : ∀b c,k (b,c)=some v→R6 p T (fld c) fun T'=>Bt (At d (.val (rep b)) (Hp r T' (p.length+1) σ)) K):LendQ P f d 0 bs vs [(j,r,p)] rs K σ:=by
 subst e
 obtain ⟨⟨b,c⟩,h1,h2⟩:=Option.bind_eq_some_iff.1 h
 obtain ⟨T',h3,h4⟩:=Jm (hk b c h2)
 rw [Az] at h4
 refine ⟨by simp only [Ib,hroots];rfl,Tri.mono (hr _ h1) ?_⟩
 rintro res outs ⟨rfl,ho⟩
 cases outs with
 | nil=>cases ho
 | cons x o=>
   simp only [List.getElem?_cons_zero,Option.some.injEq] at ho
   subst ho
   have hj:(cs c++o)[j]? = some (fld c):=by
    have hlt:=(List.getElem?_eq_some_iff.1 (hf c)).1
    rw [List.getElem?_append_left hlt];exact hf c
   show Ul 0 _ _ (rep2 c::o)
   rw [hc c]
   refine ⟨hn b,?_⟩
   simp only [List.take_zero,List.nil_append]
   rw [hj,hT]
   exact ⟨(hn2 c).1,by rw [h3];show K (At d _ (Hp r T' (p.length+K5 (fld c)) σ));rw [Yz (hn2 c).2];exact h4⟩
end
abbrev Tgt:=Ex×List Nat×St
def atQ (t:Tgt):Ex→St→Prop:=fun ex σ=>ex=t.1∧restrict t.2.1 σ=t.2.2
def Dc {σ' τ:Type} (ks:List Nat) (st:σ'→St) (tg:τ→Tgt):σ' ⊕ τ→Ex→St→Prop
 | .inl s=>atQ (.normal,ks,st s)
 | .inr t=>atQ (tg t)
def Ex.isNormal:Ex→Bool
 | .normal=>true
 | .exit _=>false
 | .ret=>false
theorem LoopQ.o {σ' τ ρ:Type} {body:σ'→Option (σ' ⊕ τ)} {k:τ→Option ρ} {v:ρ} {s0:σ'} {P:Program} {c:ACode} {Q:Ex→St→Prop} {σ:St} (ks:List Nat) (st:σ'→St) (tg:τ→Tgt)
  (h:(Ao body s0).bind k=some v) (hb : ∀s o,body s=some o→vc P c (Dc ks st tg o) (st s)) (h0:restrict ks σ=st s0) (hn : ∀t,(tg t).1.isNormal=false) (ha : ∀t,k t=some v→Q (tg t).1 (tg t).2.2) :
  LoopQ P c Q σ:=by
 obtain ⟨t,h1,h2⟩:=Option.bind_eq_some_iff.1 h
 obtain ⟨n,hit⟩:=M4.1 h1
 refine ⟨ks,n,?_⟩
 rw [h0]
 clear h0 h h1
 induction n generalizing s0 with
 | zero=>cases hit
 | succ n ih=>
   simp only [Agg] at hit
   split at hit
   ·cases hit
   ·rename_i s' e
    refine Qo ?_ (Yi (hb _ _ e))
    rintro ex τ' ⟨h3,h4⟩
    subst h3
    show Aad (awp P c) ks (less Q) n (restrict ks τ')
    rw [h4]
    exact ih hit
   ·rename_i t' e
    cases hit
    refine Qo ?_ (Yi (hb _ _ e))
    rintro ex τ' ⟨h3,h4⟩
    have hne:=hn t
    rw [←h3] at hne
    have hq:=ha t h2
    rw [←h4,←h3] at hq
    cases ex with
    | normal=>cases hne
    | exit i=>exact .inr ⟨_,hq⟩
    | ret=>exact .inr ⟨_,hq⟩
theorem CutQ.o {τ ρ:Type} {e:Option τ} {k:τ→Option ρ} {v:ρ} {P:Program} {c:ACode} {Q:Ex→St→Prop} {σ:St} (tg:τ→Tgt)
  (h:e.bind k=some v) (hb : ∀t,e=some t→vc P c (atQ (tg t)) σ) (ha : ∀t,k t=some v→Q (tg t).1 (tg t).2.2):CutQ P c Q σ:=by
 obtain ⟨t,h1,h2⟩:=Option.bind_eq_some_iff.1 h
 refine ⟨?_⟩
 show awp P c (less Q) σ
 refine Qo ?_ (Yi (hb t h1))
 rintro ex τ' ⟨h3,h4⟩
 have hq:=ha t h2
 rw [←h4,←h3] at hq
 exact .inr ⟨_,hq⟩
end Go.Proofs.YtjcekpmojnnmbaaGreat.Ax
