/-
 Part of the proof; see the last text of the claim.
-/
import Derived.Test.YtmmcfdfdacpjgaaAx3
namespace Go.Proofs.Ytmmcfdfdacpjgaa.Ax
open Go
structure Br (b:Bool) (X Y:Prop):Prop where
 t:b=true→X
 f:b=false→Y
structure Ask (p X:Prop):Prop where
 p:p
 x:X
structure Elem (xs:List V) (j:Nat) (K:V→Prop):Prop where
 h:K (xs.getD j .dead)
structure Cells (xs:List V) (c n:Nat) (K:List V→Prop):Prop where
 h : ∃us,c+n≤xs.length∧(xs.drop c).take n=us∧K us
structure Kid (T:V) (c:Nat) (K:V→Prop):Prop where
 h : ∃k,T.stepOk=true∧T.kids[c]? = some k∧K k
structure SetKids (x:V) (c:Nat) (us:List V) (K:V→Prop):Prop where
 h : ∃x',x.setKids c us=some x'∧K x'
structure MkQ (d n:Nat) (z:V) (K:List V→Prop):Prop where
 h:K (List.replicate n z)
structure BslQ (d m:Nat) (us:List V) (K:List V→Prop):Prop where
 h:Sd m us=true∧K us
structure AppQ (d:Nat) (xs ys:List V) (K:List V→Prop):Prop where
 h:Cj (Ay ys)=true∧xs.length+ys.length≤LIM∧K (xs++ys)
structure ApfQ (d:Nat) (xs ys:List V) (K:List V→Prop):Prop where
 h:Cj (Ay ys)=true∧A4 (Ay ys)=false∧A4 (Ay xs)=false∧xs.length+ys.length≤LIM∧K (xs++ys)
structure ApkQ (xs ys:List V) (K1:List V→Prop) (K2:Nat→Nat→List V→Prop):Prop where
 h:Cj (Ay ys)=true∧A4 (Ay ys)=false∧A4 (Ay xs)=false∧xs.length+ys.length≤LIM ∧ ∃l,xs++ys=l∧K1 l ∧ ∀b c,K2 b c l
structure BakQ (e:Nat) (σ:St) (K:St→Prop):Prop where
 h:K (Nd e σ)
structure SameT (u v:Value) (K:Prop):Prop where
 h:u=v∧K
structure NamQ (K:Option Addr→Nat→Nat→Prop):Prop where
 h : ∀q n c,K q n c
structure NoOwn (ys:List V) (X Y:Prop):Prop where
 h:(A4 (Ay ys)=false∧X)∨(A4 (Ay ys)=true∧Y)
structure SlcQ (xs:List V) (l h:Int) (K:List V→Prop):Prop where
 h:0≤l∧l≤h∧h≤(xs.length:Int)∧K ((xs.drop l.toNat).take (h.toNat-l.toNat))
structure Idx (j:Int) (lo n:Nat) (K:Int→Prop):Prop where
 h:lo≤j→j<n→K j
def At:Nat→Nat→Nat
 | x,0=>x*0
 | x,1=>x
 | x,m+2=>x*(m+2)
theorem Aa (x:Nat):At x 1=x:=rfl
theorem W6 (x m:Nat):At x m=x*m:=by
 unfold At;split<;>simp
def A30 (a b:Int):Int:=IntKind.i64.wrap (a*2^(min b.toNat IntKind.i64.bits))
def A2z (a b:Int):Int:=a.fdiv (2^(min b.toNat IntKind.i64.bits))
def A4o (a b:Int):Int:=IntKind.i64.wrap (BitVec.ofInt IntKind.i64.bits a &&& BitVec.ofInt IntKind.i64.bits b).toNat
def orI (a b:Int):Int:=IntKind.i64.wrap (BitVec.ofInt IntKind.i64.bits a ||| BitVec.ofInt IntKind.i64.bits b).toNat
def A3i (a b:Int):Int:=IntKind.i64.wrap (BitVec.ofInt IntKind.i64.bits a ^^^ BitVec.ofInt IntKind.i64.bits b).toNat
def Aym (a b:Int):Int:=IntKind.i64.wrap (BitVec.ofInt IntKind.i64.bits a &&& ~~~BitVec.ofInt IntKind.i64.bits b).toNat
structure Len (xs:List V) (K:Nat→Prop):Prop where
 h:K xs.length
theorem Len.map {α:Type} {f:α→V} {xs:List α} {K:Nat→Prop} (h:K xs.length):Len (xs.map f) K:=⟨by rw [List.length_map];exact h⟩
theorem Br.yes {X Y:Prop} (h:X):Br true X Y:=⟨fun _=>h,fun e=>Bool.noConfusion e⟩
theorem Br.no {X Y:Prop} (h:Y):Br false X Y:=⟨fun e=>Bool.noConfusion e,fun _=>h⟩
mutual
def Ws:A→(A→Prop)→Prop
 | .top,K=>K .top
 | .val v,K=>K (.val v)
 | .ref r p,K=>K (.ref r p)
 | .rfv v r p,K=>K (.rfv v r p)
 | .addr r p c,K=>K (.addr r p c)
 | .fad cs,K=>K (.fad cs)
 | .agg as,K=>Ai5 as fun bs=>K (.agg bs)
 | .clo f as,K=>Ai5 as fun bs=>K (.clo f bs)
def Ai5:List A→(List A→Prop)→Prop
 | [],K=>K []
 | a::r,K=>Ws a fun b=>Ai5 r fun s=>K (b::s)
end
mutual
theorem Rn:(a:A)→(K:A→Prop)→Ws a K=K a
 | .top,_=>rfl
 | .val _,_=>rfl
 | .ref _ _,_=>rfl
 | .rfv _ _ _,_=>rfl
 | .addr _ _ _,_=>rfl
 | .fad _,_=>rfl
 | .agg as,K=>by simp only [Ws];rw [Af2 as]
 | .clo f as,K=>by simp only [Ws];rw [Af2 as]
theorem Af2:(as:List A)→(K:List A→Prop)→Ai5 as K=K as
 | [],_=>rfl
 | a::r,K=>by simp only [Ai5];rw [Rn a,Af2 r]
end
def Bi:St→(St→Prop)→Prop
 | [],K=>K []
 | (k,a)::r,K=>Ws a fun b=>Bi r fun s=>K ((k,b)::s)
theorem Aq : ∀(σ:St) (K:St→Prop),Bi σ K=K σ:=by
 intro σ
 induction σ with
 | nil=>intro K;rfl
 | cons e r ih=>intro K;obtain ⟨k,a⟩:=e;simp only [Bi];rw [Rn,ih]
def Atj (o:Option St) (K:St→Prop):Prop:=match o with
 | some σ=>Bi σ K
 | none=>False
theorem Ard {o:Option St} {K:St→Prop} (h:Atj o K) : ∃σ,o=some σ∧K σ:=by
 unfold Atj at h
 split at h
 ·rw [Aq] at h;exact ⟨_,rfl,h⟩
 exact h.elim
def Gy (s:Nat) (b:Bool):St→St
 | []=>[]
 | (k,a)::r=>match Nat.beq k s with
   | true=>(k,.val (.bool b))::r
   | false=>(k,a)::Gy s b r
theorem Fb {s:Nat} {b:Bool} : ∀ {σ:St},look σ s = .val (.bool b)→Gy s b σ=σ:=by
 intro σ
 induction σ with
 | nil=>intro _;rfl
 | cons e r ih=>
   obtain ⟨k,a⟩:=e
   intro h
   simp only [look] at h
   simp only [Gy]
   by_cases hk:k=s
   ·rw [if_pos hk] at h
    subst hk
    rw [show Nat.beq k k=true by simp,h]
   ·rw [if_neg hk] at h
    rw [show Nat.beq k s=false by
     cases hb:Nat.beq k s with
     | false=>rfl
     | true=>exact absurd (Nat.eq_of_beq_eq_true hb) hk]
    simp only [ih h]
def A32 (x:X) (b:Bool) (σ:St):St:=match x with
 | .t s=>Gy s b σ
 | .c _=>σ
def Tn:List Nat→V→(V→Prop)→Prop
 | [],T,K=>K T
 | c::p,T,K=>Kid T c fun k=>Tn p k K
theorem Fm : ∀ {p:List Nat} {T:V} {K:V→Prop},Tn p T K → ∃u,sub p T=some u∧K u:=by
 intro p
 induction p with
 | nil=>intro T K h;exact ⟨T,rfl,h⟩
 | cons c p ih=>
   intro T K h
   obtain ⟨k,h1,h2,h3⟩:=h.h
   obtain ⟨u,h4,h5⟩:=ih h3
   exact ⟨u,by simp only [sub,h1,h2,if_true,h4],h5⟩
def Xg (T:A) (p:List Nat) (K:V→Prop):Prop:=match T with
 | .val V=>Tn p V K
 | _=>False
def Ei:List Nat→V→V→(V→Prop)→Prop
 | [],_,u,K=>K u
 | c::p,T,u,K=>Kid T c fun k=>Ei p k u fun k'=>SetKids T c [k'] K
theorem Bq : ∀ {p:List Nat} {T u:V} {K:V→Prop},Ei p T u K → ∃T',upd p T u=some T'∧K T':=by
 intro p
 induction p with
 | nil=>intro T u K h;exact ⟨u,rfl,h⟩
 | cons c p ih=>
   intro T u K h
   obtain ⟨k,h1,h2,h3⟩:=h.h
   obtain ⟨k',h4,h5⟩:=ih h3
   obtain ⟨T',h6,h7⟩:=h5.h
   exact ⟨T',by simp only [upd,h2,h4,h6],h7⟩
theorem Hp {σ:St} {r:Nat} {p:List Nat} {K:V→Prop} (h:Xg (look σ r) p K) : ∃T u,look σ r = .val T∧sub p T=some u∧B0 σ r p=some u∧K u:=by
 unfold Xg at h
 split at h
 ·rename_i T hT
  obtain ⟨u,h1,h2⟩:=Fm h
  exact ⟨T,u,hT,h1,by simp [B0,hT,h1],h2⟩
 exact h.elim
def Age (a b:A) (K:Int→Int→Prop) (E:Prop):Prop:=match a,b with
 | .val (.int .i64 x),.val (.int .i64 y)=>K x y
 | _,_=>E
abbrev InI (n:Int):Prop:= -9223372036854775808≤n∧n≤9223372036854775807
theorem Ann {a b:A} {K:Int→Int→Prop} {E:Prop} (h:Age a b K E):(∃x y,a = .val (.int .i64 x)∧b = .val (.int .i64 y)∧K x y)∨E:=by
 unfold Age at h
 split at h
 ·exact .inl ⟨_,_,rfl,rfl,h⟩
 exact .inr h
def A3q (a b:A) (K:ByteArray→ByteArray→Prop) (E:Prop):Prop:=match a,b with
 | .val (.str x),.val (.str y)=>K x y
 | _,_=>E
theorem Awa {a b:A} {K:ByteArray→ByteArray→Prop} {E:Prop} (h:A3q a b K E):(∃x y,a = .val (.str x)∧b = .val (.str y)∧K x y)∨E:=by
 unfold A3q at h
 split at h
 ·exact .inl ⟨_,_,rfl,rfl,h⟩
 exact .inr h
def Io (o:Option (Nat×A)) (K:Nat→A→Prop):Prop:=match o with
 | some (d,a)=>Ws a fun b=>K d b
 | none=>False
theorem Ic {o:Option (Nat×A)} {K:Nat→A→Prop} (h:Io o K) : ∃d a,o=some (d,a)∧K d a:=by
 unfold Io at h
 split at h
 ·rw [Rn] at h;exact ⟨_,_,rfl,h⟩
 exact h.elim
def A4z (d:Nat) (xs:List V) (K:Nat→A→Prop):Prop:=Len xs fun n=>K d (.val (.int .i64 n))
def A1l (d m m':Nat) (xs:List V) (j:Int) (own:Option (Nat×List Nat)) (K:Nat→A→Prop):Prop:=match Nat.beq m' m with
 | true=>Len xs fun n=>Ask (0≤j∧j<n) (match own with
   | none=>Elem xs j.toNat fun u=>K d (.fad u.cells)
   | some (r,p)=>K d (.addr r p (At j.toNat m)))
 | false=>False
structure LkQ {κ:Type} [DecidableEq κ] (es:List (κ×Lf)) (s:κ) (z:Lf) (ok:Bool) (K:V→Prop):Prop where
 h:K (As9 es s z ok)
structure MsQ {κ:Type} [DecidableEq κ] (es:List (κ×Lf)) (s:κ) (x:Lf) (K:List (κ×Lf)→Prop):Prop where
 h:K (L9 es s x)
structure LnQ {κ:Type} (es:List (κ×Lf)) (K:Nat→Prop):Prop where
 h:K es.length
def lkK (kd:Bool) (es:Es) (u:V) (z:Lf) (ok:Bool) (K:V→Prop):Prop:=match kd,es,u with
 | false,.s es,.str s=>LkQ es s z ok K
 | true,.i es,.int .i64 n=>LkQ es n z ok K
 | _,_,_=>False
theorem Arm {kd es u z ok} {K:V→Prop} (h:lkK kd es u z ok K) : ∃v,A2c kd es u z ok=some v∧K v:=by
 unfold lkK at h
 split at h
 ·exact ⟨_,rfl,h.h⟩
 ·exact ⟨_,rfl,h.h⟩
 exact h.elim
def msK (kd:Bool) (es:Es) (u:V) (x:Lf) (K:Es→Prop):Prop:=match kd,es,u with
 | false,.s es,.str s=>MsQ es s x fun l=>K (.s l)
 | true,.i es,.int .i64 n=>MsQ es n x fun l=>K (.i l)
 | _,_,_=>False
theorem Ayy {kd es u x} {K:Es→Prop} (h:msK kd es u x K) : ∃es',A4j kd es u x=some es'∧K es':=by
 unfold msK at h
 split at h
 ·exact ⟨_,rfl,h.h⟩
 ·exact ⟨_,rfl,h.h⟩
 exact h.elim
structure BsQ (xs:List V) (K:ByteArray→Prop):Prop where
 h : ∃ns,P2 xs=some ns∧K (Xp ns)
def Avs (d m:Nat) (xs:List V) (K:Nat→A→Prop):Prop:=match Nat.beq m 1 with
 | true=>BsQ xs fun s=>K d (.val (.str s))
 | false=>False
structure FrzQ (T:V) (n:Nat) (K:V→Prop):Prop where
 h : ∃T',T.fzAt n=T'∧K T'
def Ag7 (o:AOp) (σ:St) (K:Nat→A→Prop):Prop:=match o with
 | .mlk d x k z ok kd=>match Ai σ x,Ai σ k with
   | .val (.mp o es),.val u=>(match o with
     | false=>lkK kd es u z ok fun v=>K d (.val v)
     | true=>False)
   | .ref r p,.val u=>Xg (look σ r) p fun n=>match n with
     | .mp _ es=>lkK kd es u z ok fun v=>K d (.val v)
     | _=>False
   | _,_=>False
 | .bstr d x=>match Ai σ x with
   | .val (.sl o m xs)=>(match o with
     | false=>Avs d m xs K
     | true=>False)
   | .ref r p=>Xg (look σ r) p fun u=>match u with
     | .sl _ m xs=>Avs d m xs K
     | _=>False
   | _=>False
 | .bin d op x y=>match op with
   | .add=>A3q (Ai σ x) (Ai σ y) (fun s t=>Ask (s.size+t.size≤9223372036854775807) (K d (.val (.str (s++t))))) (Age (Ai σ x) (Ai σ y) (fun a b=>Ask (InI (a+b)) (K d (.val (.int .i64 (a+b))))) (Io (qR o σ) K))
   | .sub=>Age (Ai σ x) (Ai σ y) (fun a b=>Ask (InI (a-b)) (K d (.val (.int .i64 (a-b))))) (Io (qR o σ) K)
   | .mul=>Age (Ai σ x) (Ai σ y) (fun a b=>Ask (InI (a*b)) (K d (.val (.int .i64 (a*b))))) (Io (qR o σ) K)
   | .quo=>Age (Ai σ x) (Ai σ y) (fun a b=>Ask (b≠0∧InI (a.tdiv b)) (K d (.val (.int .i64 (a.tdiv b))))) (Io (qR o σ) K)
   | .rem=>Age (Ai σ x) (Ai σ y) (fun a b=>Ask (b≠0) (K d (.val (.int .i64 (a.tmod b))))) (Io (qR o σ) K)
   | .shl=>Age (Ai σ x) (Ai σ y) (fun a b=>Ask (0≤b) (K d (.val (.int .i64 (A30 a b))))) (Io (qR o σ) K)
   | .shr=>Age (Ai σ x) (Ai σ y) (fun a b=>Ask (0≤b) (K d (.val (.int .i64 (A2z a b))))) (Io (qR o σ) K)
   | .and=>Age (Ai σ x) (Ai σ y) (fun a b=>K d (.val (.int .i64 (A4o a b)))) (Io (qR o σ) K)
   | .or=>Age (Ai σ x) (Ai σ y) (fun a b=>K d (.val (.int .i64 (orI a b)))) (Io (qR o σ) K)
   | .xor=>Age (Ai σ x) (Ai σ y) (fun a b=>K d (.val (.int .i64 (A3i a b)))) (Io (qR o σ) K)
   | .andNot=>Age (Ai σ x) (Ai σ y) (fun a b=>K d (.val (.int .i64 (Aym a b)))) (Io (qR o σ) K)
   | _=>Io (qR o σ) K
 | .pick d c x y=>match Ai σ c with
   | .val (.bool b)=>Br b (Io ((nt (Ai σ x)).map (d,·)) K) (Io ((nt (Ai σ y)).map (d,·)) K)
   | _=>False
 | .iad d m x i=>match Ai σ x,Ai σ i with
   | .val (.sl _ m' xs),.val (.int _ j)=>A1l d m m' xs j none K
   | .ref r p,.val (.int _ j)=>Xg (look σ r) p fun u=>match u with
     | .sl o m' xs=>match o with
       | true=>A1l d m m' xs j (some (r,p)) K
       | false=>False
     | _=>False
   | _,_=>False
 | .ld d n ag x=>match H8 σ (Ai σ x) with
   | some (.own r p c)=>Xg (look σ r) p fun u=>Cells u.kids c n fun ks=>Ws (mkA ag (Tc r p c ks)) fun b=>K d b
   | _=>Io (qR o σ) K
 | .mk d m z x=>match Ai σ x with
   | .val (.int _ n)=>Ask (0≤n∧n≤(LIM:Int)) (MkQ d n.toNat z.up fun l=>K d (.val (.sl true m l)))
   | _=>False
 | .mkc d m _ x=>match Ai σ x with
   | .val (.int _ n)=>Ask (0≤n∧n≤(LIM:Int)) (K d (.val (.sl true m [])))
   | _=>False
 | .bsl d m ps=>match Jc (ps.map (Ai σ)) with
   | some Us=>BslQ d m (upL Us) fun l=>K d (.val (.sl true m l))
   | none=>False
 | .mkr d m z x=>match Ai σ x with
   | .val (.int _ n)=>Ask (0≤n∧n≤(LIM:Int)) (MkQ d n.toNat z.up fun l=>FrzQ (.sl true m l) 0 fun T'=>K d (.val T'))
   | _=>False
 | .bslr d m ps=>match Jc (ps.map (Ai σ)) with
   | some Us=>BslQ d m (upL Us) fun l=>FrzQ (.sl true m l) 0 fun T'=>K d (.val T')
   | none=>False
 | .slc d m x lo hi=>match Ai σ x with
   | .val (.ptr o (.agg cs))=>(match o with
     | true=>False
     | false=>(match As0 m cs (lo.map (Ai σ)) (hi.map (Ai σ)) with
       | true=>K d (.val (.sl false 1 cs))
       | false=>False))
   | .val (.sl o m' xs)=>(match o with
     | true=>False
     | false=>(match Nat.beq m' m with
       | true=>(match Ab3 0 (lo.map (Ai σ)) with
         | some l=>(match hi with
           | none=>Len xs fun n=>SlcQ xs l n fun ys=>K d (.val (.sl false m ys))
           | some y=>(match Awt (Ai σ y) with
             | some h=>SlcQ xs l h fun ys=>K d (.val (.sl false m ys))
             | none=>False))
         | none=>False)
       | false=>False))
   | _=>False
 | .len d x=>match Ai σ x with
   | .val (.sl _ _ xs)=>A4z d xs K
   | .ref r p=>Xg (look σ r) p fun u=>match u with
     | .sl _ _ xs=>A4z d xs K
     | _=>False
   | _=>Io (qR o σ) K
 | .sidx d x i=>(match Ai σ x,Ai σ i with
   | .val (.str s),.val (.int _ j)=>Ask (0≤j∧j<(s.size:Int)) (K d (.val (.int .u8 (Ag5 s j))))
   | _,_=>False)
 | o=>Io (qR o σ) K
theorem Am6 {d m m':Nat} {xs:List V} {j:Int} {own:Option (Nat×List Nat)} {K:Nat→A→Prop} (h:A1l d m m' xs j own K):m'=m∧0≤j∧j<xs.length∧(match own with
  | none=>K d (.fad (xs.getD j.toNat .dead).cells)
  | some (r,p)=>K d (.addr r p (j.toNat*m))):=by
 unfold A1l at h
 split at h
 ·rename_i hm
  have h1:=h.h
  refine ⟨Nat.eq_of_beq_eq_true hm,h1.p.1,h1.p.2,?_⟩
  cases own with
  | none=>exact h1.x.h
  | some e=>have:=h1.x;simpa [W6] using this
 exact h.elim
theorem Ai3 {d m:Nat} {xs:List V} {K:Nat→A→Prop} (h:Avs d m xs K) : ∃ns,m=1∧P2 xs=some ns∧K d (.val (.str (Xp ns))):=by
 unfold Avs at h
 split at h
 ·rename_i hm
  obtain ⟨ns,h1,h2⟩:=h.h
  exact ⟨ns,Nat.eq_of_beq_eq_true hm,h1,h2⟩
 exact h.elim
theorem Lv {o:AOp} {σ:St} {K:Nat→A→Prop} (h:Ag7 o σ K) : ∃d a,qR o σ=some (d,a)∧K d a:=by
 unfold Ag7 at h
 split at h
 ·rename_i d x k z ok kd
  split at h
  ·rename_i o es s hx hk
   split at h
   ·obtain ⟨v,h1,h2⟩:=Arm h
    exact ⟨_,_,by simp [qR,hx,hk,mpA,Do,h1],h2⟩
   exact h.elim
  ·rename_i r p s hx hk
   obtain ⟨T,u,hT,hs,hn,hq⟩:=Hp h
   split at hq
   ·obtain ⟨v,h1,h2⟩:=Arm hq
    exact ⟨_,_,by simp [qR,hx,hk,mpA,hn,Do,h1],h2⟩
   exact hq.elim
  exact h.elim
 ·rename_i d x
  split at h
  ·rename_i o m xs hx
   split at h
   ·obtain ⟨ns,h1,h2,h3⟩:=Ai3 h
    subst h1
    exact ⟨_,_,by simp [qR,hx,slA,h2],h3⟩
   exact h.elim
  ·rename_i r p hx
   obtain ⟨T,u,hT,hs,hn,hq⟩:=Hp h
   split at hq
   ·obtain ⟨ns,h1,h2,h3⟩:=Ai3 hq
    subst h1
    exact ⟨_,_,by simp [qR,hx,slA,hn,h2],h3⟩
   exact hq.elim
  exact h.elim
 ·rename_i d op x y
  split at h
  case h_12=>exact Ic h
  case h_1=>
   rcases Awa h with ⟨s,t,ha,hb,hk⟩ | h
   ·exact ⟨_,_,by simp [qR,ha,hb,Do,V.isBool,Sa,hk.p],hk.x⟩
   rcases Ann h with ⟨a,b,ha,hb,hk⟩ | h
   ·exact ⟨_,_,by simp [qR,ha,hb,Do,V.isBool,Sa,Z9 hk.p.1 hk.p.2],hk.x⟩
   ·exact Ic h
  all_goals
   rcases Ann h with ⟨a,b,ha,hb,hk⟩ | h
   case inr=>exact Ic h
  ·exact ⟨_,_,by simp [qR,ha,hb,Do,V.isBool,Sa,Z9 hk.p.1 hk.p.2],hk.x⟩
  ·exact ⟨_,_,by simp [qR,ha,hb,Do,V.isBool,Sa,Z9 hk.p.1 hk.p.2],hk.x⟩
  ·exact ⟨_,_,by simp [qR,ha,hb,Do,V.isBool,Sa,hk.p.1,Z9 hk.p.2.1 hk.p.2.2],hk.x⟩
  ·exact ⟨_,_,by simp [qR,ha,hb,Do,V.isBool,Sa,hk.p],hk.x⟩
  ·exact ⟨d,.val (.int .i64 (A30 a b)),by simp [qR,ha,hb,Do,V.isBool,Sa,Int.not_lt.2 hk.p,A30],hk.x⟩
  ·exact ⟨d,.val (.int .i64 (A2z a b)),by simp [qR,ha,hb,Do,V.isBool,Sa,Int.not_lt.2 hk.p,A2z],hk.x⟩
  ·exact ⟨d,.val (.int .i64 (A4o a b)),by simp [qR,ha,hb,Do,V.isBool,Sa,A4o],hk⟩
  ·exact ⟨d,.val (.int .i64 (orI a b)),by simp [qR,ha,hb,Do,V.isBool,Sa,orI],hk⟩
  ·exact ⟨d,.val (.int .i64 (A3i a b)),by simp [qR,ha,hb,Do,V.isBool,Sa,A3i],hk⟩
  exact ⟨d,.val (.int .i64 (Aym a b)),by simp [qR,ha,hb,Do,V.isBool,Sa,Aym],hk⟩
 ·rename_i d c x y
  split at h
  ·rename_i b hb
   cases b
   ·obtain ⟨d',a,h1,h2⟩:=Ic (h.f rfl)
    exact ⟨d',a,by simp only [qR,hb];simpa using h1,h2⟩
   obtain ⟨d',a,h1,h2⟩:=Ic (h.t rfl)
   exact ⟨d',a,by simp only [qR,hb];simpa using h1,h2⟩
  exact h.elim
 ·rename_i d m x i
  split at h
  ·rename_i hx hi
   obtain ⟨h1,h2,h3,h4⟩:=Am6 h
   subst h1
   exact ⟨_,_,by simp only [qR,hx,hi,h2,h3,and_self,if_true],h4⟩
  ·rename_i hx hi
   obtain ⟨T,u,hT,hs,hn,hk⟩:=Hp h
   split at hk
   case h_2=>exact hk.elim
   split at hk
   case h_2=>exact hk.elim
   obtain ⟨h1,h2,h3,h4⟩:=Am6 hk
   subst h1
   exact ⟨_,_,by simp only [qR,hx,hi,hn,h2,h3,and_self,if_true],h4⟩
  exact h.elim
 ·rename_i d n ag x
  split at h
  ·rename_i r p c hl
   obtain ⟨T,u,hT,hs,hn,hk⟩:=Hp h
   obtain ⟨ks,h1,h2,h3⟩:=hk.h
   rw [Rn] at h3
   subst h2
   exact ⟨_,_,by simp [qR,hl,Aat,hn,h1],h3⟩
  exact Ic h
 ·rename_i d m z x
  split at h
  ·rename_i hx
   exact ⟨_,_,by simp [qR,hx,h.p.1,h.p.2],h.x.h⟩
  exact h.elim
 ·rename_i d m z x
  split at h
  ·rename_i hx
   exact ⟨_,_,by simp [qR,hx,h.p.1,h.p.2],h.x⟩
  exact h.elim
 ·rename_i d m ps
  split at h
  ·rename_i Us hU
   exact ⟨_,_,by simp [qR,hU,h.h.1],h.h.2⟩
  exact h.elim
 ·rename_i d m z x
  split at h
  ·rename_i hx
   obtain ⟨T',e1,h1⟩:=h.x.h.h
   rw [Al] at e1
   subst e1
   exact ⟨_,_,by simp [qR,hx,h.p.1,h.p.2],h1⟩
  exact h.elim
 ·rename_i d m ps
  split at h
  ·rename_i Us hU
   obtain ⟨T',e1,h1⟩:=h.h.2.h
   rw [Al] at e1
   subst e1
   exact ⟨_,_,by simp [qR,hU,h.h.1],h1⟩
  exact h.elim
 ·rename_i d m x lo hi
  split at h
  case h_3=>exact h.elim
  case h_1=>
   rename_i o cs hx
   split at h
   ·exact h.elim
   ·split at h
    case h_2=>exact h.elim
    rename_i hao
    exact ⟨_,_,by simp only [qR,Aiv,hx];rw [if_pos hao];rfl,h⟩
  rename_i o m' xs hx
  split at h
  ·exact h.elim
  split at h
  case h_2=>exact h.elim
  rename_i hm
  have hm':=Nat.eq_of_beq_eq_true hm
  split at h
  case h_2=>exact h.elim
  rename_i l hl
  split at h
  ·obtain ⟨h0,h1,h2,h3⟩:=h.h.h
   have e2:Ab3 (xs.length:Int) ((none:Option X).map (Ai σ))=some (xs.length:Int):=rfl
   exact ⟨_,_,by simp only [qR,Aiv,hx,hl,e2];rw [if_pos ⟨hm',h0,h1,h2⟩];rfl,h3⟩
  rename_i y
  split at h
  case h_2=>exact h.elim
  rename_i hh hy
  obtain ⟨h0,h1,h2,h3⟩:=h.h
  have e2:Ab3 (xs.length:Int) ((some y).map (Ai σ))=some hh:=hy
  exact ⟨_,_,by simp only [qR,Aiv,hx,hl,e2];rw [if_pos ⟨hm',h0,h1,h2⟩];rfl,h3⟩
 ·rename_i d x
  split at h
  ·rename_i hx
   exact ⟨_,_,by simp [qR,hx,Afh],h.h⟩
  ·rename_i hx
   obtain ⟨T,u,hT,hs,hn,hk⟩:=Hp h
   split at hk
   case h_2=>exact hk.elim
   exact ⟨_,_,by simp [qR,hx,Afh,hn],hk.h⟩
  exact Ic h
 ·rename_i d x i
  split at h
  case h_2=>exact h.elim
  rename_i hx hi
  exact ⟨_,_,by simp only [qR,hx,hi];rw [if_pos h.p],h.x⟩
 exact Ic h
def yK (σ:St) (m:Nat) (y:A) (K:List V→St→Prop):Prop:=match y with
 | .val (.sl _ m' ys)=>match Nat.beq m' m with
   | true=>K ys σ
   | false=>False
 | .val (.nilsl _)=>K [] σ
 | .ref r p=>Xg (look σ r) p fun u=>match u with
   | .sl o m' ys=>match o with
     | true=>match Nat.beq m' m with
       | true=>NoOwn ys (K ys σ) (match Fv σ (.ref r p) with
         | some (_,σ1)=>K ys σ1
         | none=>False)
       | false=>False
     | false=>False
   | _=>False
 | _=>False
theorem Aig {σ:St} {m:Nat} {y:A} {K:List V→St→Prop} (h:yK σ m y K) : ∃ys σ1,yS σ m y=some (ys,σ1)∧K ys σ1:=by
 unfold yK at h
 split at h
 ·split at h
  ·rename_i hm
   exact ⟨_,_,by simp [yS,Nat.eq_of_beq_eq_true hm],h⟩
  exact h.elim
 ·exact ⟨_,_,by simp [yS],h⟩
 ·obtain ⟨T,u,hT,hs,hn,hk⟩:=Hp h
  split at hk
  case h_2=>exact hk.elim
  split at hk
  case h_2=>exact hk.elim
  split at hk
  case h_2=>exact hk.elim
  rename_i hm
  have hm':=Nat.eq_of_beq_eq_true hm
  rcases hk.h with ⟨h1,h2⟩ | ⟨h1,h2⟩
  ·exact ⟨_,_,by simp [yS,hn,hm',h1],h2⟩
  split at h2
  ·rename_i U σ1 ht
   exact ⟨_,_,by simp [yS,hn,hm',h1,ht],h2⟩
  exact h2.elim
 exact h.elim
def A3p:AOp→Bool
 | .mov .. => true
 | .pick .. => true
 | .bin .. => true
 | .binb .. => true
 | .un .. => true
 | .cnv .. => true
 | .len .. => true
 | .ext .. => true
 | .iad .. => true
 | .fadr .. => true
 | .ld .. => true
 | .nck .. => true
 | .mk .. => true
 | .mkc .. => true
 | .mkr .. => true
 | .bslr .. => true
 | .alc .. => true
 | .mkf .. => true
 | .slc .. => true
 | .sidx .. => true
 | .mkm .. => true
 | .mlk .. => true
 | .bstr .. => true
 | _=>false
def holeW {α:Type} (f:α→V) (l:List α) (i:Nat) (v:V):List V:=(l.map f).set i v
def Apo (σ:St) (a:A) (K:V→St→Prop):Prop:=match a with
 | .ref r (c::p)=>(match look σ r with
   | .val T=>Tn (c::p) T fun u=>Ei (c::p) T .dead fun T'=>K u (turnP r T' (c::p) σ)
   | _=>False)
 | a=>match Ie σ a with
   | some (v,σ')=>K v σ'
   | none=>False
theorem Agy {σ:St} {a:A} {K:V→St→Prop} (h:Apo σ a K) : ∃v σ',Ie σ a=some (v,σ')∧K v σ':=by
 unfold Apo at h
 split at h
 ·rename_i r c p
  split at h
  case h_2=>exact h.elim
  rename_i T hT
  obtain ⟨u,h1,h2⟩:=Fm h
  obtain ⟨T',h3,h4⟩:=Bq h2
  exact ⟨u,_,by simp only [Ie,Fv,hT,h1,h3],h4⟩
 split at h
 ·exact ⟨_,_,by assumption,h⟩
 exact h.elim
def Azm (o:AOp) (σ:St) (K:St→Prop):Prop:=match o with
 | .mup m k v kd=>match Ai σ m,Ai σ k,Ai σ v with
   | .ref r p,.val s,.val u=>match vLf u with
     | some x=>match look σ r with
       | .val T=>Tn p T fun nd=>match nd with
         | .mp o es=>(match o with
           | true=>msK kd es s x fun es'=>Ei p T (.mp true es') fun T'=>Bi (Hq r T' (p.length+1) σ) K
           | false=>False)
         | _=>False
       | _=>False
     | none=>False
   | _,_,_=>False
 | .bsl d m ps=>match Od σ (ps.map (Ai σ)) with
   | some (Us,σ1)=>BslQ d m Us fun l=>Bi (Ak d (.val (.sl true m l)) σ1) K
   | none=>False
 | .app d m x y=>yK σ m (Ai σ y) fun ys σ1=>Apo σ1 (Ai σ1 x) fun v σ2=>match v with
   | .sl o m' xs=>(match o with
     | true=>(match Nat.beq m' m with
       | true=>AppQ d xs ys fun l=>Bi (Ak d (.val (.sl true m l)) σ2) K
       | false=>False)
     | false=>False)
   | _=>False
 | .apf d m x y e=>yK σ m (Ai σ y) fun ys σ1=>match Ai σ x,look σ1 e with
   | .val (.raw tv),.rfv tv' r (c::p)=>SameT tv tv' (match look (Ak e .top σ1) r with
     | .val T=>Tn (c::p) T fun u=>match u with
       | .sl o m' xs=>(match o with
         | true=>(match Nat.beq m' m with
           | true=>Ei (c::p) T .dead fun T0=>Ei (c::p) T0 (.sl false m xs) fun T'=>ApfQ d xs ys fun l=>Bi (Ak d (.val (.sl false m l)) (turnP r T' (c::p) (turnP r T0 (c::p) (Ak e .top σ1)))) K
           | false=>False)
         | false=>False)
       | _=>False
     | _=>False)
   | _,_=>False
 | .st n x v=>match Ie σ (Ai σ v) with
   | some (U,σ1)=>match H8 σ1 (Ai σ1 x) with
     | some (.own r p c)=>match look σ1 r with
       | .val T=>Tn p T fun nd=>match nd.node&&decide (U.cells.length=n)&&Cj U.cells with
         | true=>SetKids nd c U.cells fun nd'=>Ei p T nd' fun T'=>Bi (Hq r T' (p.length+1) σ1) K
         | false=>False
       | _=>False
     | _=>False
   | none=>False
 | o=>Atj (Cm o σ) K
theorem Aq0 {o:AOp} {σ:St} {K:St→Prop} (h:Azm o σ K) : ∃σ',Cm o σ=some σ'∧K σ':=by
 unfold Azm at h
 split at h
 ·rename_i m k v kd
  split at h
  case h_2=>exact h.elim
  rename_i r p s u hm hk hv
  split at h
  case h_2=>exact h.elim
  rename_i x hx
  split at h
  case h_2=>exact h.elim
  rename_i T hT
  obtain ⟨nd,hs,hq⟩:=Fm h
  split at hq
  case h_2=>exact hq.elim
  rename_i o es
  split at hq
  case h_2=>exact hq.elim
  obtain ⟨es',h0,hq⟩:=Ayy hq
  obtain ⟨T',h1,h2⟩:=Bq hq
  rw [Aq] at h2
  exact ⟨_,by simp [Cm,A1q,hm,hk,hv,hT,hs,Do,hx,h0,h1],h2⟩
 ·rename_i d m ps
  split at h
  ·rename_i Us σ1 hU
   obtain ⟨h1,h2⟩:=h.h
   rw [Aq] at h2
   exact ⟨_,by simp [Cm,Asy,hU,h1],h2⟩
  exact h.elim
 ·rename_i d m x y
  obtain ⟨ys,σ1,hy,hk⟩:=Aig h
  obtain ⟨v,σ2,hX,hk⟩:=Agy hk
  split at hk
  case h_2=>exact hk.elim
  rename_i o m' xs
  split at hk
  case h_2=>exact hk.elim
  split at hk
  case h_2=>exact hk.elim
  rename_i hm
  have hm':=Nat.eq_of_beq_eq_true hm
  obtain ⟨h1,h2,h3⟩:=hk.h
  rw [Aq] at h3
  exact ⟨_,by simp [Cm,Aww,hy,hX,hm',h1,h2],h3⟩
 ·rename_i d m x y e
  obtain ⟨ys,σ1,hy,hk⟩:=Aig h
  split at hk
  case h_2=>exact hk.elim
  rename_i tv tv' r c p hX hE
  obtain ⟨etv,hk1⟩:=hk.h
  clear hk
  subst etv
  split at hk1
  case h_2=>exact hk1.elim
  rename_i T hT
  obtain ⟨u,hu,hk⟩:=Fm hk1
  split at hk
  case h_2=>exact hk.elim
  rename_i o m' xs
  split at hk
  case h_2=>exact hk.elim
  split at hk
  case h_2=>exact hk.elim
  rename_i hm
  have hm':=Nat.eq_of_beq_eq_true hm
  subst hm'
  obtain ⟨T0,hT0,hk⟩:=Bq hk
  obtain ⟨T',hT',hk⟩:=Bq hk
  obtain ⟨h1,h2,h3,h4,h5⟩:=hk.h
  rw [Aq] at h5
  refine ⟨_,?_,h5⟩
  simp only [Cm,A1w,hy,hX,hE]
  split
  ·simp only [hT,hu,hT0,hT',h1,h2,h3,h4,and_self,if_true]
  rename_i hne _;exact absurd rfl hne
 ·rename_i n x v
  split at h
  case h_2=>exact h.elim
  rename_i U σ1 ht
  split at h
  case h_2=>exact h.elim
  rename_i r p c hl
  split at h
  case h_2=>exact h.elim
  rename_i T hT
  obtain ⟨u,hs,hk⟩:=Fm h
  split at hk
  case h_2=>exact hk.elim
  rename_i hc
  obtain ⟨nd',h1,h2⟩:=hk.h
  obtain ⟨T',h3,h4⟩:=Bq h2
  rw [Aq] at h4
  exact ⟨_,by simp only [Cm,Aoh,ht,hl,hT,hs,hc,h1,h3,if_true],h4⟩
 exact Ard h
def Ag3 (o:AOp) (σ:St) (K:St→Prop):Prop:=match A3p o with
 | true=>Ag7 o σ fun d a=>Bi (Ak d a σ) K
 | false=>Azm o σ K
theorem L0 {o:AOp} {σ:St} {K:St→Prop} (h:Ag3 o σ K) : ∃σ',Cm o σ=some σ'∧K σ':=by
 unfold Ag3 at h
 split at h
 ·obtain ⟨d,a,h1,h2⟩:=Lv h
  rw [Aq] at h2
  exact ⟨_,(Ap0 h1).1,h2⟩
 exact Aq0 h
structure CallQ (P:Program) (f d:Nat) (vs:List V) (ls:List (Nat×Nat×List Nat)) (rs:List Nat) (K:St→Prop) (σ:St):Prop where
 h:Jy σ ls rs=true∧Tri P f vs (Ff d ls rs K σ)
structure CallP (P:Program) (f d:Nat) (vs:List V) (rs:List Nat) (K:V→Prop):Prop where
 h : ∃v,Tri P f vs (fun res _=>res=v∧Ea rs v=true)∧K v
structure CloP (P:Program) (f d:Nat) (cs vs:List V) (rs:List Nat) (K:V→Prop):Prop where
 h : ∃v,Tri P f (vs++fzL cs) (fun res _=>res=v∧Ea rs v=true)∧K v
structure CloQ (P:Program) (f d:Nat) (cs vs:List V) (rs:List Nat) (K:St→Prop) (σ:St):Prop where
 h:Tri P f (vs++fzL cs) (Ff d [] rs K σ)
def Are (σ:St) (a:A) (io:Bool) (k:Nat) (K:V→List (Nat×Nat×List Nat)→List Nat→Prop):Prop:=match a with
 | .val v=>K v.fz [] []
 | .ref r p=>Xg (look σ r) p fun u=>match io&&u.node with
   | true=>K u [(k,r,p)] []
   | false=>K u.fz [] [r]
 | a=>match M3 σ a with
   | some v=>K v [] a.roots
   | none=>False
def Acw (σ:St):List (A×Bool)→Nat→(List V→List (Nat×Nat×List Nat)→List Nat→Prop)→Prop
 | [],_,K=>K [] [] []
 | (a,io)::rest,k,K=>Are σ a io k fun v ls' rs'=>Acw σ rest (k+1) fun vs ls rs=>K (v::vs) (ls'++ls) (rs'++rs)
theorem Axm {σ:St} {a:A} {io:Bool} {k:Nat} {K:V→List (Nat×Nat×List Nat)→List Nat→Prop} (h:Are σ a io k K) :
  (∃r p u,io=true∧Sc σ a=some (r,p,u)∧K u [(k,r,p)] [])∨((io=true→Sc σ a=none) ∧ ∃v,M3 σ a=some v∧K v [] a.roots):=by
 cases a with
 | val v=>exact .inr ⟨fun _=>rfl,_,rfl,h⟩
 | ref r p=>
   obtain ⟨T,u,hT,hs,hn,hk⟩:=Hp h
   split at hk
   ·rename_i hb
    simp only [Bool.and_eq_true] at hb
    exact .inl ⟨r,p,u,hb.1,by simp [Sc,hn,hb.2],hk⟩
   ·rename_i hb
    refine .inr ⟨fun hi=> ?_,u.fz,by simp [M3,hn],hk⟩
    simp only [Sc,hn]
    cases hu:u.node with
    | false=>rfl
    | true=>rw [hi,hu] at hb;cases hb
 | top=>simp [Are,M3] at h
 | rfv v r p=>simp [Are,M3] at h
 | addr r p c=>simp [Are,M3] at h
 | fad cs=>simp [Are,M3] at h
 | agg as=>
   simp only [Are] at h
   split at h
   ·exact .inr ⟨fun _=>rfl,_,by assumption,h⟩
   ·exact h.elim
 | clo f as=>
   simp only [Are] at h
   split at h
   ·exact .inr ⟨fun _=>rfl,_,by assumption,h⟩
   ·exact h.elim
theorem Oj {σ:St} : ∀ {as:List (A×Bool)} {k:Nat} {K:List V→List (Nat×Nat×List Nat)→List Nat→Prop},Acw σ as k K → ∃vs ls rs,Ee σ as k=some (vs,ls,rs)∧K vs ls rs:=by
 intro as
 induction as with
 | nil=>intro k K h;exact ⟨[],[],[],rfl,h⟩
 | cons e rest ih=>
   intro k K h
   obtain ⟨a,io⟩:=e
   simp only [Acw] at h
   rcases Axm h with ⟨r,p,u,h1,h2,h3⟩ | ⟨h1,v,h2,h3⟩
   ·obtain ⟨vs,ls,rs,h4,h5⟩:=ih h3
    exact ⟨_,_,_,by simp [Ee,h4,h1,h2],h5⟩
   ·obtain ⟨vs,ls,rs,h4,h5⟩:=ih h3
    refine ⟨_,_,_,?_,h5⟩
    simp only [Ee,h4]
    have:(if io=true then Sc σ a else none)=none:=by split<;>simp_all
    simp [this,h2]
structure LendQ (P:Program) (f d n:Nat) (g:Option Nat) (bs:List A) (vs:List V) (ls:List (Nat×Nat×List Nat)) (rs:List Nat) (K:St→Prop) (σ:St):Prop where
 h:Jy σ ls rs=true∧Tri P f (Avl n bs.length g vs) (Zk n g (Ff d ls rs K σ))
structure CallT (P:Program) (f m j d:Nat) (vs:List V) (ls:List (Nat×Nat×List Nat)) (rs:List Nat) (K:St→Prop) (σ:St):Prop where
 h:Jy σ ls rs=true∧Av6 P f m j vs (Ff d ls rs K σ)
def Avk (P:Program) (f d:Nat) (as:List (A×Bool)) (K:St→Prop) (σ:St):Prop:=match Lg as with
 | some (pre,g,bs,rest)=>Acw σ (pre++(bs.map (·,true)++rest)) 0 fun vs ls rs=>LendQ P f d pre.length g bs vs ls rs K σ
 | none=>Acw σ as 0 fun vs ls rs=>CallQ P f d vs ls rs K σ
structure CloV (P:Program) (d:Nat) (u:V) (vs:List V) (rs:List Nat) (K:St→Prop) (σ:St):Prop where
 h : ∃f cs,(u = .clo f cs∨u = .fclo f cs)∧Tri P f (vs++fzL cs) (Ff d [] rs K σ)
structure CloN (P:Program) (d:Nat) (as:List (A×Bool)) (ms:List Bool) (u:V) (r:Nat) (p:List Nat) (K:St→Prop) (σ:St):Prop where
 h : ∃tv f cs,u = .clov tv f cs∧Ig P f d (as++Agl ms (Tc r p 0 cs)) K σ
def A44 (d m:Nat) (x y:X) (s e:Nat) (σ:St) (K:St→Prop):Prop:=yK σ m (Ai σ y) fun ys σ1=>match Ai σ1 x with
 | .ref r []=>(match look σ1 s with
   | .ref r' []=>(match Nat.beq r' r with
     | true=>(match look σ1 r with
       | .val (.sl o m' xs)=>(match o with
         | true=>(match Nat.beq m' m with
           | true=>ApkQ xs ys (fun l=>Bi (Ak d (.val (.sl true m l)) σ1) K) (fun b c l=>Bi (A0r d m r s e (.slice (some ⟨b,0,none⟩) xs.length c) (.slice (some ⟨b,0,none⟩) (xs.length+ys.length) c) l σ1) K)
           | false=>False)
         | false=>False)
       | _=>False)
     | false=>False)
   | _=>False)
 | _=>False
theorem Auc {P:Program} {d m s e:Nat} {x y:X} {σ:St} {K:St→Prop} (h:A44 d m x y s e σ K):Sj P (.apk d m x y s e) K σ:=by
 obtain ⟨ys,σ1,hY,h⟩:=Aig h
 simp only [Sj,hY]
 split at h
 case h_2=>exact h.elim
 rename_i r hX
 simp only [hX]
 split at h
 case h_2=>exact h.elim
 rename_i r' hS
 split at h
 case h_2=>exact h.elim
 rename_i hr
 have hr':=Nat.eq_of_beq_eq_true hr
 subst hr'
 split at h
 case h_2=>exact h.elim
 rename_i o m' xs hL
 simp only [hL]
 split at h
 case h_2=>exact h.elim
 split at h
 case h_2=>exact h.elim
 rename_i hm
 have hm':=Nat.eq_of_beq_eq_true hm
 subst hm'
 obtain ⟨c1,c2,c3,c4,l,rfl,k1,k2⟩:=h.h
 rw [Aq] at k1
 refine ⟨⟨hS,rfl,rfl,c1,c2,c3,c4⟩,k1,fun b c=> ?_⟩
 have k3:=k2 b c
 rw [Aq] at k3
 exact k3
def opK (P:Program) (o:AOp) (σ:St) (K:St→Prop):Prop:=match o with
 | .call d f as=>Avk P f d (Eh σ as) K σ
 | .apk d m x y s e=>A44 d m x y s e σ K
 | .cally d x as ms=>match Ai σ x with
   | .val u=>Acw σ (Eh σ (as.map (·,false))) 0 fun vs ls rs=>match ls with
     | []=>CloV P d u vs rs K σ
     | _=>False
   | .clo f cs=>Avk P f d (Eh σ (as.map (·,false))++Agl ms cs) K σ
   | .ref r p=>Xg (look σ r) p fun u=>CloN P d (Eh σ (as.map (·,false))) ms u r p K σ
   | _=>False
 | .slc d m (.t s) lo hi=>(match look σ s with
   | .val T=>(match T.hasOwn with
     | true=>Bi (Afr s σ) fun σ'=>Ag3 (.slc d m (.t s) lo hi) σ' K
     | false=>Ag3 (.slc d m (.t s) lo hi) σ K)
   | .ref r (c::p)=>(match look σ r with
     | .val T=>Tn (c::p) T fun u=>(match u.hasOwn with
       | true=>Ei (c::p) T .dead fun T0=>FrzQ u 0 fun uf=>Ei (c::p) T0 uf fun T1=>Bi (Aih uf (Abp r (c::p) σ σ) (turnP r T1 (c::p) (turnP r T0 (c::p) σ))) fun σ'=>Ag3 (.slc d m (.t s) lo hi) σ' K
       | false=>Ag3 (.slc d m (.t s) lo hi) σ K)
     | _=>False)
   | _=>Ag3 (.slc d m (.t s) lo hi) σ K)
 | o=>Ag3 o σ K
theorem Agt {P:Program} {f d:Nat} {as:List (A×Bool)} {K:St→Prop} {σ:St} (h:Avk P f d as K σ):Ig P f d as K σ:=by
 unfold Avk at h
 unfold Ig
 split at h
 ·rename_i e
  simp only [e]
  obtain ⟨vs,ls,rs,h1,h2⟩:=Oj h
  rw [h1];exact h2.h
 rename_i e
 simp only [e]
 obtain ⟨vs,ls,rs,h1,h2⟩:=Oj h
 rw [h1];exact h2.h
theorem Af1 {P:Program} {o:AOp} {σ:St} {K:St→Prop} (h:opK P o σ K):Sj P o K σ:=by
 unfold opK at h
 split at h
 case h_2=>exact Auc h
 all_goals unfold Sj
 ·exact Agt h
 ·split at h
  ·rename_i e
   obtain ⟨vs,ls,rs,h1,h2⟩:=Oj h
   split at h2
   case h_2=>exact h2.elim
   obtain ⟨f,cs,hu,ht⟩:=h2.h
   rcases hu with rfl | rfl
   ·simp only [e,Aqb,Zz]
    unfold Ig
    rw [Ab2]
    simp only
    rw [Wl (fun k=>Abs _ k) h1]
    exact ⟨rfl,ht⟩
   simp only [e,Aqb,Zz]
   unfold Ig
   rw [Ab2]
   simp only
   rw [Wl (fun k=>Abs _ k) h1,Aab]
   exact ⟨rfl,ht⟩
  ·rename_i e
   simp only [e,Aqb,Zz];exact Agt h
  ·rename_i e
   obtain ⟨T,u,hT,hs,hn,hk0⟩:=Hp h
   obtain ⟨tv,f,cs,rfl,hk⟩:=hk0.h
   simp only [e,Aqb,hn,Zz];exact hk
  exact h.elim
 ·rename_i d m s lo hi
  simp only [Ag0]
  split at h
  ·rename_i T hT
   simp only [hT]
   split at h
   ·rename_i ho
    rw [Aq] at h
    obtain ⟨σ',e,hk⟩:=L0 h
    simp only [ho]
    rw [e];exact hk
   rename_i ho
   obtain ⟨σ',e,hk⟩:=L0 h
   simp only [ho]
   rw [e];exact hk
  ·rename_i r c p hL
   simp only [hL]
   split at h
   case h_2=>exact h.elim
   rename_i T hT
   obtain ⟨u,hu,h⟩:=Fm h
   split at h
   ·rename_i ho
    obtain ⟨T0,hT0,h⟩:=Bq h
    obtain ⟨uf,huf,h⟩:=h.h
    rw [Al] at huf
    subst huf
    obtain ⟨T1,hT1,h⟩:=Bq h
    rw [Aq] at h
    obtain ⟨σ',e,hk⟩:=L0 h
    simp only [Ay8,hT,hu,ho,hT0,hT1]
    rw [e];exact hk
   rename_i ho
   obtain ⟨σ',e,hk⟩:=L0 h
   simp only [Ay8,hT,hu,ho]
   rw [e];exact hk
  rename_i hne hne2
  obtain ⟨σ',e,hk⟩:=L0 h
  split
  ·rename_i σ2 he
   split at he
   ·rename_i T hT;exact absurd hT (hne T)
   ·rename_i r c p hT;exact absurd hT (hne2 r c p)
   rw [e] at he;cases he;exact hk
  rename_i he
  split at he
  ·rename_i T hT;exact absurd hT (hne T)
  ·rename_i r c p hT;exact absurd hT (hne2 r c p)
  rw [e] at he;cases he
 rename_i h1 h0 h2 h3
 obtain ⟨σ',e,hk⟩:=L0 h
 have hp:Ag0 o σ=σ:=by
  unfold Ag0
  split
  ·exact absurd rfl (h3 _ _ _ _ _)
  ·rfl
 split
 ·exact absurd rfl (h1 _ _ _)
 ·exact absurd rfl (h2 _ _ _ _)
 ·exact absurd rfl (h0 _ _ _ _ _ _)
 rw [hp,e];exact hk
def Atb (P:Program) (o:AOp) (σ:St) (K:St→Prop):Prop:=match o with
 | .call d f as=>(match Ant as with
   | []=>opK P (.call d f as) σ K
   | _::_=>Bi (Acb as σ) fun τ=>opK P (.call d f as) τ K)
 | o=>opK P o σ K
theorem Ak7 {P:Program} {o:AOp} {σ:St} {K:St→Prop} (h:Atb P o σ K):Uk P o K σ:=by
 unfold Atb at h
 unfold Uk
 split at h
 ·simp only [Abr]
  split at h
  ·rename_i e
   simp only [e]
   exact Af1 h
  rename_i e
  rw [Aq] at h
  simp only [e]
  exact Af1 h
 rename_i h1
 have hp:Abr o σ=σ:=by
  unfold Abr
  split
  ·exact absurd rfl (h1 _ _ _)
  ·rfl
 rw [hp]
 exact Af1 h
def Pr (P:Program):List G→(St→Prop)→St→Prop
 | [],K,σ=>K σ
 | ⟨none,o⟩::r,K,σ=>Atb P o σ (Pr P r K)
 | ⟨some (s,true),o⟩::r,K,σ=>match look σ s with
   | .val (.bool b)=>Br b (Bi (Gy s true σ) fun τ=>Atb P o τ (Pr P r K)) (Bi (Ks o (Gy s false σ)) (Pr P r K))
   | .val (.tup [])=>Bi (Ks o σ) (Pr P r K)
   | _=>False
 | ⟨some (s,false),o⟩::r,K,σ=>match look σ s with
   | .val (.bool b)=>Br b (Bi (Ks o (Gy s true σ)) (Pr P r K)) (Bi (Gy s false σ) fun τ=>Atb P o τ (Pr P r K))
   | .val (.tup [])=>Bi (Ks o σ) (Pr P r K)
   | _=>False
theorem L3 {P:Program} : ∀ {gs:List G} {K:St→Prop} {σ:St},Pr P gs K σ→Cu P gs K σ:=by
 intro gs
 induction gs with
 | nil=>intro K σ h;exact h
 | cons x r ih=>
   intro K σ h
   obtain ⟨g,o⟩:=x
   have run : ∀ {τ},Atb P o τ (Pr P r K)→Uk P o (Cu P r K) τ:=fun h=>Wo (fun _=>ih) (Ak7 h)
   match g,h with
   | none,h=>exact run h
   | some (s,true),h=>
     simp only [Pr] at h
     simp only [Cu]
     split at h
     ·rename_i b hb
      simp only [hb]
      refine ⟨fun e=> ?_,fun e=> ?_⟩
      ·subst e
       have:=h.t rfl
       rw [Aq,Fb hb] at this
       exact run this
      ·have e':b=false:=by simpa using e
       subst e'
       have:=h.f rfl
       rw [Aq,Fb hb] at this
       exact ih this
     ·rename_i hb
      simp only [hb]
      rw [Aq] at h;exact ih h
     ·exact h.elim
   | some (s,false),h=>
     simp only [Pr] at h
     simp only [Cu]
     split at h
     ·rename_i b hb
      simp only [hb]
      refine ⟨fun e=> ?_,fun e=> ?_⟩
      ·subst e
       have:=h.f rfl
       rw [Aq,Fb hb] at this
       exact run this
      ·have e':b=true:=by simpa using e
       subst e'
       have:=h.t rfl
       rw [Aq,Fb hb] at this
       exact ih this
     ·rename_i hb
      simp only [hb]
      rw [Aq] at h;exact ih h
     ·exact h.elim
def yNK (σ:St) (m s:Nat) (y:A) (K:List V→Prop):Prop:=match y with
 | .val (.sl _ m' ys)=>(match Nat.beq m' m with
   | true=>K ys
   | false=>False)
 | .val (.nilsl _)=>K []
 | .ref r p=>(match Nat.beq r s with
   | true=>False
   | false=>Xg (look σ r) p fun u=>match u with
     | .sl o m' ys=>(match o with
       | true=>(match Nat.beq m' m with
         | true=>NoOwn ys (K ys) False
         | false=>False)
       | false=>False)
     | _=>False)
 | _=>False
theorem Ays {σ:St} {m s:Nat} {y:A} {K:List V→Prop} (h:yNK σ m s y K) : ∃ys,yN σ m s y=some ys∧K ys:=by
 unfold yNK at h
 split at h
 ·split at h
  ·rename_i hm
   exact ⟨_,by simp [yN,Nat.eq_of_beq_eq_true hm],h⟩
  exact h.elim
 ·exact ⟨_,by simp [yN],h⟩
 ·split at h
  ·exact h.elim
  rename_i hrs
  obtain ⟨T,u,hT,hs,hn,hk⟩:=Hp h
  split at hk
  case h_2=>exact hk.elim
  split at hk
  case h_2=>exact hk.elim
  split at hk
  case h_2=>exact hk.elim
  rename_i hm
  have hm':=Nat.eq_of_beq_eq_true hm
  have hne : ∀ {r:Nat},Nat.beq r s=false→r≠s:=by
   intro r h1 h2;subst h2;simp at h1
  rcases hk.h with ⟨h1,h2⟩ | ⟨_,h2⟩
  ·exact ⟨_,by simp [yN,hn,hm',h1,hne hrs],h2⟩
  exact h2.elim
 exact h.elim
def Aix:List Nat→(List Nat→Prop)→Prop
 | [],K=>K []
 | n::r,K=>Aix r fun s=>K (n::s)
theorem Anu : ∀(l:List Nat) (K:List Nat→Prop),Aix l K=K l:=by
 intro l
 induction l with
 | nil=>intro K;rfl
 | cons n r ih=>intro K;simp only [Aix];rw [ih]
def Auo (P:Program) (o:AOp) (σ:St) (K:Nat→A→List Nat→Prop):Prop:=match o with
 | .call d f as=>match as.all (fun e => !e.2) with
   | true=>Acw σ (Eh σ as) 0 fun vs ls rs=>match ls with
     | []=>CallP P f d vs rs fun v=>K d (.val v) []
     | _=>False
   | false=>False
 | .cally d x as _=>(match Ai σ x with
   | .val (.fclo f cs)=>Acw σ (Eh σ (as.map (·,false))) 0 fun vs ls rs=>match ls with
     | []=>CloP P f d cs vs rs fun v=>K d (.val v) []
     | _=>False
   | _=>False)
 | .app d m (.t s) y=>(match look σ s with
   | .val (.sl o m' xs)=>(match o with
     | true=>(match Nat.beq m' m with
       | true=>yNK σ m s (Ai σ y) fun ys=>AppQ d xs ys fun l=>K d (.val (.sl true m l)) [s]
       | false=>False)
     | false=>False)
   | _=>False)
 | .bsl d m ps=>(match Qq σ ps with
   | some (Us,ks)=>BslQ d m Us fun l=>Aix ks fun ks=>K d (.val (.sl true m l)) ks
   | none=>False)
 | .asg d (.t s)=>(match look σ s with
   | .val v=>(match v.hasOwn with
     | true=>Ws (.val v) fun a=>K d a [s]
     | false=>Ws (.val v.up) fun a=>K d a [])
   | _=>False)
 | o=>Ag7 o σ fun d a=>K d a []
theorem Ao3 {P:Program} {o:AOp} {σ:St} {K:Nat→A→List Nat→Prop} (h:Auo P o σ K):Qx P o σ K:=by
 unfold Auo at h
 unfold Qx
 split at h
 ·split at h
  case h_2=>exact h.elim
  rename_i hio
  refine ⟨hio,?_⟩
  obtain ⟨vs,ls,rs,h1,h2⟩:=Oj h
  split at h2
  case h_2=>exact h2.elim
  rw [h1]
  exact h2.h
 ·split at h
  case h_2=>exact h.elim
  rename_i hx
  obtain ⟨vs,ls,rs,h1,h2⟩:=Oj h
  split at h2
  case h_2=>exact h2.elim
  simp only [hx,h1]
  exact h2.h
 ·split at h
  case h_2=>exact h.elim
  rename_i hL
  split at h
  case h_2=>exact h.elim
  split at h
  case h_2=>exact h.elim
  rename_i hm
  obtain ⟨ys,h1,h2⟩:=Ays h
  simp only [hL,h1]
  obtain ⟨k1,k2,k3⟩:=h2.h
  exact ⟨⟨trivial,Nat.eq_of_beq_eq_true hm,k1,k2⟩,k3⟩
 ·split at h
  case h_2=>exact h.elim
  rename_i ht
  obtain ⟨k1,k2⟩:=h.h
  rw [Anu] at k2
  simp only [ht]
  exact ⟨k1,k2⟩
 ·split at h
  case h_2=>exact h.elim
  rename_i hL
  split at h
  ·rename_i hv
   rw [Rn] at h
   simp only [hL,hv];exact h
  rename_i hv
  rw [Rn] at h
  simp only [hL,hv];exact h
 rename_i h1 h0 h2 h3 h4
 obtain ⟨d,a,e,hk⟩:=Lv h
 split
 ·exact absurd rfl (h1 _ _ _)
 ·exact absurd rfl (h0 _ _ _ _)
 ·exact absurd rfl (h2 _ _ _ _)
 ·exact absurd rfl (h3 _ _ _)
 ·exact absurd rfl (h4 _ _)
 rw [e];exact hk
def hk (hide kl:List Nat):List Nat:=match kl with
 | []=>hide
 | k::r=>hide++(k::r)
theorem Asn (hide kl:List Nat):hk hide kl=hide++kl:=by
 cases kl with
 | nil=>simp [hk]
 | cons k r=>rfl
def Ayi (acc:St) (kl:List Nat):Bool:=match kl with
 | []=>true
 | k::r=>O9 acc (k::r)
theorem Anm {acc:St} {kl:List Nat} (h:Ayi acc kl=true):O9 acc kl=true:=by
 cases kl with
 | nil=>unfold O9;simp
 | cons k r=>exact h
def Avc (kl:List Nat) (acc:St):St:=match kl with
 | []=>acc
 | k::r=>Eg (k::r) acc
theorem Asm (kl:List Nat) (acc:St):Avc kl acc=Eg kl acc:=by
 cases kl with
 | nil=>
   simp only [Avc]
   induction acc with
   | nil=>rfl
   | cons e r ih=>obtain ⟨d,a⟩:=e;simp [Eg,←ih]
 | cons k r=>rfl
structure LendP (P:Program) (f d:Nat) (vs:List V) (rs:List Nat) (k:Nat) (p:List Nat) (T:V) (K:V→V→Prop):Prop where
 h : ∃v u T',Tri P f vs (fun res outs=>res=v∧outs[k]? = some u)∧(Ea rs v=true∧Ea rs u=true∧u.node=true∧upd p T u=some T')∧K v T'
def Apz (P:Program) (o:AOp) (s:Nat) (σ:St) (K:Nat→V→Nat×V×Nat→Prop):Prop:=match o with
 | .call d f as=>(match Lg (Eh σ as) with
   | some _=>False
   | none=>Acw σ (Eh σ as) 0 fun vs ls rs=>match ls with
     | [(k,r,p)]=>(match Nat.beq r s && !rs.contains r with
       | true=>(match look σ r with
         | .val T=>LendP P f d vs rs k p T fun v T'=>K d v (r,T',p.length+1)
         | _=>False)
       | false=>False)
     | _=>False)
 | _=>False
theorem Amh {P:Program} {o:AOp} {s:Nat} {σ:St} {K:Nat→V→Nat×V×Nat→Prop} (h:Apz P o s σ K):Yn P o s σ K:=by
 unfold Apz at h
 unfold Yn
 split at h
 case h_2=>exact h.elim
 split at h
 ·exact h.elim
 rename_i hgv
 obtain ⟨vs,ls,rs,h1,h2⟩:=Oj h
 split at h2
 case h_2=>exact h2.elim
 rename_i k r p
 split at h2
 case h_2=>exact h2.elim
 rename_i hb
 simp only [Bool.and_eq_true,Bool.not_eq_true'] at hb
 split at h2
 case h_2=>exact h2.elim
 rename_i T hT
 simp only [hgv,h1,hT]
 exact ⟨⟨Nat.eq_of_beq_eq_true hb.1,hb.2⟩,h2.h⟩
def Ais (ls hide:List Nat) (cs:List (Nat×V×Nat)) (σ:St):St:=match ls with
 | []=>σ
 | l::q=>Nv (l::q) hide cs σ
theorem Awu (σ:St):Aaq [] σ=σ:=by
 induction σ with
 | nil=>rfl
 | cons e r ih=>
   obtain ⟨k,a⟩:=e
   simp [Aaq,ih]
theorem Az6 {ls hide:List Nat} {cs:List (Nat×V×Nat)} {σ:St} (hc : ∀c∈cs,ls.contains c.1=true):Ais ls hide cs σ=Nv ls hide cs σ:=by
 cases ls with
 | nil=>
   have:cs=[]:=by
    cases cs with
    | nil=>rfl
    | cons c q=>have:=hc c (by simp);simp at this
   subst this
   simp only [Ais,Nv,List.filter_nil,Gx]
   have:(List.filter (fun x=>([]:List Nat).contains x) hide)=[]:=by simp
   rw [this,Awu]
 | cons l q=>rfl
abbrev Aup:=St→List Nat→List (Nat×V×Nat)→(St→Prop)→Prop
def Avy (σ0 acc:St) (o:AOp) (hide kl:List Nat) (cs:List (Nat×V×Nat)) (K:St→Prop) (ih:Aup) (acc1:St) (d:Nat) (a:A) (ks:List Nat):Prop:=match Fw d acc σ0 with
 | true=>(match ks with
   | []=>Bi (acc1++[(d,a.mapR (Ao d 0))]) fun acc'=>ih acc' kl cs K
   | k::q=>(match Ack (k::q) o (Eg (hk hide kl) acc) with
     | true=>Bi (acc1++[(d,a.mapR (Ao d 0))]) fun acc'=>Aix (kl++(k::q)) fun kl'=>ih acc' kl' cs K
     | false=>False))
 | false=>False
def Aaa (σ0 acc:St) (o:AOp) (kl:List Nat) (cs:List (Nat×V×Nat)) (K:St→Prop) (ih:Aup) (acc1:St):Prop:=match o.dst with
 | some d=>(match Fw d acc σ0 with
   | true=>Bi (acc1++[(d,.val (.tup []))]) fun acc'=>ih acc' kl cs K
   | false=>False)
 | none=>False
def Alf (P:Program) (ls:List Nat) (σ0 acc:St) (o:AOp) (hide kl:List Nat) (cs:List (Nat×V×Nat)) (K:St→Prop) (ih:Aup) (acc1:St):Prop:=
 Bi (Eg (hk hide kl) acc1++Ais ls hide cs σ0) fun σh=>Auo P o σh (Avy σ0 acc o hide kl cs K ih acc1)
def Au7 (P:Program) (ls:List Nat) (σ0 acc:St) (o:AOp) (s:Nat) (hide kl:List Nat) (cs:List (Nat×V×Nat)) (K:St→Prop) (ih:Aup):Prop:=
 Bi (Eg (hk hide kl) acc++Ais ls hide.tail cs σ0) fun σh=>Apz P o s σh fun d v c=>match Fw d acc σ0&&ls.contains s&&Ati (look σ0 s)&&Nat.beq c.1 s with
  | true=>Bi (acc++[(d,.val v)]) fun acc'=>ih acc' kl (cs++[c]) K
  | false=>False
def Ac9 (P:Program) (ls:List Nat) (σ0:St) (x:G×List Nat) (ih:Aup) (acc:St) (kl:List Nat) (cs:List (Nat×V×Nat)) (K:St→Prop):Prop:=match x with
 | (⟨none,o⟩,hide)=>(match Mp o hide with
   | []=>Alf P ls σ0 acc o hide kl cs K ih acc
   | s::_=>Au7 P ls σ0 acc o s hide kl cs K ih)
 | (⟨some (s,true),o⟩,hide)=>(match (hk hide kl).contains s || !(Mp o hide).isEmpty with
   | true=>False
   | false=>(match look (Eg (hk hide kl) acc++Ais ls hide cs σ0) s with
     | .val (.bool b)=>Br b (Alf P ls σ0 acc o hide kl cs K ih (Gy s true acc)) (Aaa σ0 acc o kl cs K ih (Gy s false acc))
     | .val (.tup [])=>Aaa σ0 acc o kl cs K ih acc
     | _=>False))
 | (⟨some (s,false),o⟩,hide)=>(match (hk hide kl).contains s || !(Mp o hide).isEmpty with
   | true=>False
   | false=>(match look (Eg (hk hide kl) acc++Ais ls hide cs σ0) s with
     | .val (.bool b)=>Br b (Aaa σ0 acc o kl cs K ih (Gy s true acc)) (Alf P ls σ0 acc o hide kl cs K ih (Gy s false acc))
     | .val (.tup [])=>Aaa σ0 acc o kl cs K ih acc
     | _=>False))
def Atv (σ0 acc:St) (kl:List Nat) (cs:List (Nat×V×Nat)) (K:St→Prop):Prop:=match Ayi acc kl with
 | true=>(match cs with
   | []=>Bi (Avc kl acc++σ0) K
   | c::q=>(match Agm acc (c::q) with
     | true=>Bi (Avc kl acc++Gx (c::q) σ0) K
     | false=>False))
 | false=>False
def An0 (P:Program) (ls:List Nat) (σ0:St) (l:List (G×List Nat)):Aup:=
 List.rec (motive:=fun _=>Aup) (Atv σ0) (fun x _ ih=>Ac9 P ls σ0 x ih) l
theorem Wq {hide:List Nat} {acc σ0:St} {s:Nat} {b:Bool} (h:look (Eg hide acc++σ0) s = .val (.bool b)) (hh:hide.contains s=false):Gy s b acc=acc:=by
 rw [F5] at h
 split at h
 ·rw [Abm _ _ _ hh] at h
  exact Fb h
 rename_i hk
 rw [Z5] at hk
 have hk':Bb s acc=false:=by
  rw [hh] at hk;simpa using hk
 clear h hk
 induction acc with
 | nil=>rfl
 | cons e r ih=>
   obtain ⟨k,a⟩:=e
   simp only [Bb,Bool.or_eq_false_iff,beq_eq_false_iff_ne] at hk'
   simp only [Gy]
   rw [show Nat.beq k s=false by
    cases hb:Nat.beq k s with
    | false=>rfl
    | true=>exact absurd (Nat.eq_of_beq_eq_true hb) hk'.1]
   simp only [ih hk'.2]
theorem Auj {P:Program} {o:AOp} {σ:St} {c c':Nat→A→List Nat→Prop} (h : ∀d a ks,c d a ks→c' d a ks) (ha:Qx P o σ c):Qx P o σ c':=Ab7 h ha
theorem Agp {P:Program} {ls:List Nat} {σ0:St} : ∀ {l:List (G×List Nat)} {acc:St} {kl:List Nat} {cs:List (Nat×V×Nat)} {KS:List (List Nat)} {CS:List (List (Nat×V×Nat))} {K:St→Prop},KS.flatten=kl→CS.flatten=cs→(∀c∈cs,ls.contains c.1=true)→An0 P ls σ0 l acc kl cs K→Gg P ls σ0 l acc KS CS K:=by
 intro l
 induction l with
 | nil=>
   intro acc kl cs KS CS K hkl hcs hin h
   subst hkl
   change Atv σ0 acc KS.flatten cs K at h
   simp only [Atv] at h
   split at h
   ·rename_i hr
    split at h
    ·rw [Aq,Asm] at h
     refine ⟨⟨Anm hr,?_⟩,?_⟩
     ·rw [hcs];unfold Agm;simp
     ·rw [hcs];exact h
    ·split at h
     ·rename_i hr2
      rw [Aq,Asm] at h
      rw [←hcs] at h hr2
      exact ⟨⟨Anm hr,hr2⟩,h⟩
     ·exact h.elim
   ·exact h.elim
 | cons x r ih=>
   intro acc kl cs KS CS K hkl hcs hin h
   subst hkl
   obtain ⟨⟨g,o⟩,hide⟩:=x
   change Ac9 P ls σ0 (⟨g,o⟩,hide) (An0 P ls σ0 r) acc KS.flatten cs K at h
   have hbk : ∀hide,Ais ls hide cs σ0=Nv ls hide CS.flatten σ0:=fun hide=>by rw [Az6 hin,hcs]
   have run:Alf P ls σ0 acc o hide KS.flatten cs K (An0 P ls σ0 r) acc→Qx P o (Eg (hide++KS.flatten) acc++Nv ls hide CS.flatten σ0) fun d a ks=>(Fw d acc σ0=true∧Ack ks o (Eg (hide++KS.flatten) acc)=true)∧Gg P ls σ0 r (acc++[(d,a.mapR (Ao d 0))]) (KS++[ks]) (CS++[[]]) K:=by
    intro h
    unfold Alf at h
    rw [Aq,Asn,hbk] at h
    refine Auj ?_ (Ao3 h)
    intro d a ks hk
    unfold Avy at hk
    rw [Asn] at hk
    split at hk
    ·rename_i hf
     split at hk
     ·rw [Aq] at hk
      exact ⟨⟨hf,rfl⟩,ih (by simp) (by simp [hcs]) hin hk⟩
     ·split at hk
      ·rename_i hkk
       rw [Aq,Anu] at hk
       exact ⟨⟨hf,hkk⟩,ih (by simp) (by simp [hcs]) hin hk⟩
      ·exact hk.elim
    ·exact hk.elim
   have skip:Aaa σ0 acc o KS.flatten cs K (An0 P ls σ0 r) acc→(match o.dst with
      | some d=>Fw d acc σ0=true∧Gg P ls σ0 r (acc++[(d,.val (.tup []))]) (KS++[[]]) (CS++[[]]) K
      | none=>False):=by
    intro h
    unfold Aaa at h
    cases hd:o.dst with
    | none=>rw [hd] at h;exact h.elim
    | some d=>
      rw [hd] at h
      cases hf:Fw d acc σ0 with
      | false=>simp only [hf] at h
      | true=>
        simp only [hf] at h
        rw [Aq] at h
        exact ⟨hf,ih (by simp) (by simp [hcs]) hin h⟩
   match g,h with
   | none,h=>
     simp only [Ac9] at h
     simp only [Gg]
     cases hlo:Mp o hide with
     | nil=>rw [hlo] at h;exact run h
     | cons s q=>
       rw [hlo] at h
       simp only at h ⊢
       unfold Au7 at h
       rw [Aq,Asn,hbk] at h
       refine Agz ?_ (Amh h)
       intro d v c hc
       split at hc
       case h_2=>exact hc.elim
       rename_i hcond
       simp only [Bool.and_eq_true] at hcond
       rw [Aq] at hc
       refine ⟨⟨hcond.1.1.1,hcond.1.1.2,hcond.1.2⟩,ih (by simp) (by simp [hcs]) ?_ hc⟩
       intro c' hc'
       rcases List.mem_append.1 hc' with h1 | h1
       ·exact hin c' h1
       ·simp at h1
        subst h1
        rw [Nat.eq_of_beq_eq_true hcond.2];exact hcond.1.1.2
   | some (s,true),h=>
     simp only [Ac9,Asn,hbk] at h
     simp only [Gg]
     split at h
     ·exact h.elim
     rename_i hh
     simp only [Bool.or_eq_false_iff,Bool.not_eq_false',List.isEmpty_iff] at hh
     refine ⟨hh.2,?_⟩
     replace hh:=hh.1
     split at h
     ·rename_i b hb
      simp only [hb]
      refine ⟨fun e=> ?_,fun e=> ?_⟩
      ·subst e
       have:=h.t rfl
       rw [Wq hb hh] at this
       exact run this
      ·have e':b=false:=by simpa using e
       subst e'
       have:=h.f rfl
       rw [Wq hb hh] at this
       exact skip this
     ·rename_i hb
      simp only [hb]
      exact skip h
     ·exact h.elim
   | some (s,false),h=>
     simp only [Ac9,Asn,hbk] at h
     simp only [Gg]
     split at h
     ·exact h.elim
     rename_i hh
     simp only [Bool.or_eq_false_iff,Bool.not_eq_false',List.isEmpty_iff] at hh
     refine ⟨hh.2,?_⟩
     replace hh:=hh.1
     split at h
     ·rename_i b hb
      simp only [hb]
      refine ⟨fun e=> ?_,fun e=> ?_⟩
      ·subst e
       have:=h.f rfl
       rw [Wq hb hh] at this
       exact run this
      ·have e':b=true:=by simpa using e
       subst e'
       have:=h.t rfl
       rw [Wq hb hh] at this
       exact skip this
     ·rename_i hb
      simp only [hb]
      exact skip h
     ·exact h.elim
structure SameQ (x y:A) (K:Prop):Prop where
 h:x=y∧K
def Avm (o:AOp) (σ:St) (ih:St→Prop):Prop:=Ag7 o σ fun d a=>match Tq a with
 | true=>Bi (Ak d a σ) ih
 | false=>False
def Aty (x:G) (σ:St) (ih:St→Prop):Prop:=match x.g with
 | none=>Avm x.o σ ih
 | some (s,want)=>(match look σ s with
   | .val (.bool b)=>(match want with
     | true=>Br b (Bi (Gy s true σ) fun τ=>Avm x.o τ ih) (Bi (Ks x.o (Gy s false σ)) ih)
     | false=>Br b (Bi (Ks x.o (Gy s true σ)) ih) (Bi (Gy s false σ) fun τ=>Avm x.o τ ih))
   | .val (.tup [])=>Bi (Ks x.o σ) ih
   | _=>False)
def Apa (A:List (Nat×G)) (K:St→Prop):St→Prop:=
 List.rec (motive:=fun _=>St→Prop) K (fun e _ ih σ=>Aty e.2 σ ih) A
def Ast (o:AOp) (K:Nat→A→Prop):Prop:=match o.dst with
 | some d=>K d (.val (.tup []))
 | none=>False
def Apl (x:G) (σ:St) (K:Nat→A→Prop):Prop:=match x.g with
 | none=>Ag7 x.o σ K
 | some (s,want)=>(match look σ s with
   | .val (.bool b)=>(match b,want with
     | true,true=>Ag7 x.o σ K
     | false,false=>Ag7 x.o σ K
     | true,false=>Ast x.o K
     | false,true=>Ast x.o K)
   | .val (.tup [])=>Ast x.o K
   | _=>False)
def Akm (xs:List Nat) (σ:St) (K:Prop) (A:List (Nat×G)):Prop:=
 List.rec (motive:=fun _=>Prop) K (fun e _ ih=>match xs.contains e.1 with
  | true=>Apl e.2 σ fun d a=>match Arg a d σ with
    | true=>SameQ (look σ d) a ih
    | false=>False
  | false=>ih) A
def Ac1 (P:Program) (o:AOp) (ds:List Nat) (σ:St) (K:St→Prop):Prop:=match ds with
 | []=>Atb P o σ K
 | s::q=>(match o with
   | .app d m x y=>yK σ m (Ai σ y) fun ys σ1=>Apo σ1 (Ai σ1 x) fun v σ2=>match v with
     | .sl o m' xs=>(match o with
       | true=>(match Nat.beq m' m with
         | true=>AppQ d xs ys fun l=>Bi (Id (s::q) (Ak d (.val (.sl true m l)) σ2)) K
         | false=>False)
       | false=>False)
     | _=>False
   | _=>False)
theorem Awe (σ:St):Id [] σ=σ:=by
 have key : ∀a:A,a.mapR (Ajv [])=a:=by
  intro a
  have e:Ajv []=fun r _=>some r:=by funext r p;simp [Ajv]
  rw [e];exact Avr a
 induction σ with
 | nil=>rfl
 | cons e r ih=>obtain ⟨k,a⟩:=e;simp [Id,ih,key]
theorem Ud {P:Program} {o:AOp} {ds:List Nat} {σ:St} {K:St→Prop} (h:Ac1 P o ds σ K):Uk P o (fun σ'=>K (Id ds σ')) σ:=by
 unfold Ac1 at h
 split at h
 ·refine Wo (fun σ' hk=> ?_) (Ak7 h)
  rw [Awe];exact hk
 split at h
 all_goals (try (exact h.elim))
 obtain ⟨ys,σ1,hy,hk⟩:=Aig h
 obtain ⟨v,σ2,hX,hk⟩:=Agy hk
 split at hk
 case h_2=>exact hk.elim
 split at hk
 case h_2=>exact hk.elim
 split at hk
 case h_2=>exact hk.elim
 rename_i hm
 have hm':=Nat.eq_of_beq_eq_true hm
 obtain ⟨h1,h2,h3⟩:=hk.h
 rw [Aq] at h3
 simp only [Uk,Abr,Sj,Ag0,Cm,Aww,hy,hX,hm',h1,h2]
 simpa using h3
def Vw (P:Program) (x:G) (ds:List Nat) (σ:St) (K:St→Prop):Prop:=match x.g with
 | none=>Ac1 P x.o ds σ K
 | some (s,want)=>(match look σ s with
   | .val (.bool b)=>(match want with
     | true=>Br b (Bi (Gy s true σ) fun τ=>Ac1 P x.o ds τ K) (Bi (Id ds (Ks x.o (Gy s false σ))) K)
     | false=>Br b (Bi (Id ds (Ks x.o (Gy s true σ))) K) (Bi (Gy s false σ) fun τ=>Ac1 P x.o ds τ K))
   | .val (.tup [])=>Bi (Id ds (Ks x.o σ)) K
   | _=>False)
theorem Zs {P:Program} {x:G} {ds:List Nat} {σ:St} {K:St→Prop} (h:Vw P x ds σ K):Cu P [x] (fun σ'=>K (Id ds σ')) σ:=by
 unfold Vw at h
 simp only [Cu]
 split at h
 ·rename_i hxg
  simp only [hxg]
  exact Ud h
 rename_i s want hxg
 simp only [hxg]
 split at h
 ·rename_i b hb
  simp only [hb]
  split at h
  ·refine ⟨fun e=> ?_,fun e=> ?_⟩
   ·subst e
    have h2:=h.t rfl
    rw [Aq,Fb hb] at h2
    exact Ud h2
   have e':b=false:=by simpa using e
   subst e'
   have h2:=h.f rfl
   rw [Aq,Fb hb] at h2
   exact h2
  refine ⟨fun e=> ?_,fun e=> ?_⟩
  ·subst e
   have h2:=h.f rfl
   rw [Aq,Fb hb] at h2
   exact Ud h2
  have e':b=true:=by simpa using e
  subst e'
  have h2:=h.t rfl
  rw [Aq,Fb hb] at h2
  exact h2
 ·rename_i hb
  simp only [hb]
  rw [Aq] at h
  exact h
 exact h.elim
structure Two (X Y:Prop):Prop where
 h:X∧Y
def Akt (P:Program) (A:List (Nat×G)) (K:St→Prop) (pl:LPlan):Bool→St→Prop:=
 LPlan.rec (motive:=fun _=>Bool→St→Prop) (fun b σ=>match b with
  | true=>K σ
  | false=>True) (fun _ x xs ds _ ot ihn iho _ σ=>match ot with
    | .nil=>Akm xs σ (Vw P x ds σ (ihn true)) A
    | .alt .. => Two (Akm xs σ (Vw P x ds σ (ihn true)) A) (iho false σ)) pl
theorem Yz {o:AOp} {σ:St} {ih K:St→Prop} (h:Avm o σ ih) (hi : ∀σ,ih σ→K σ):match qR o σ with
  | some (d,a)=>Tq a=true∧K (Ak d a σ)
  | none=>False:=by
 obtain ⟨d,a,h1,h2⟩:=Lv h
 simp only [h1]
 split at h2
 ·rename_i hu
  rw [Aq] at h2
  exact ⟨hu,hi _ h2⟩
 exact h2.elim
theorem Amz : ∀ {A:List (Nat×G)} {K:St→Prop} {σ},Apa A K σ→G8 A K σ:=by
 intro A
 induction A with
 | nil=>intro K σ h;exact h
 | cons e r ih=>
   intro K σ h
   obtain ⟨i,x⟩:=e
   have h':Aty x σ (Apa r K):=h
   unfold Aty at h'
   simp only [G8]
   split at h'
   ·rename_i hxg
    simp only [hxg]
    exact Yz h' fun _=>ih
   ·rename_i s want hxg
    simp only [hxg]
    split at h'
    ·rename_i b hb
     simp only [hb]
     split at h'
     ·refine ⟨fun e=> ?_,fun e=> ?_⟩
      ·subst e
       have h2:=h'.t rfl
       rw [Aq,Fb hb] at h2
       exact Yz h2 fun _=>ih
      ·have e':b=false:=by simpa using e
       subst e'
       have h2:=h'.f rfl
       rw [Aq,Fb hb] at h2
       exact ih h2
     ·refine ⟨fun e=> ?_,fun e=> ?_⟩
      ·subst e
       have h2:=h'.f rfl
       rw [Aq,Fb hb] at h2
       exact Yz h2 fun _=>ih
      ·have e':b=true:=by simpa using e
       subst e'
       have h2:=h'.t rfl
       rw [Aq,Fb hb] at h2
       exact ih h2
    ·rename_i hb
     simp only [hb]
     rw [Aq] at h'
     exact ih h'
    ·exact h'.elim
theorem Zc {o:AOp} {K:Nat→A→Prop} (h:Ast o K) : ∃d a,Agq o=some (d,a)∧K d a:=by
 unfold Ast at h
 unfold Agq
 split at h
 ·rename_i d hd;simp only [hd];exact ⟨_,_,rfl,h⟩
 exact h.elim
theorem Apb {x:G} {σ:St} {K:Nat→A→Prop} (h:Apl x σ K) : ∃d a,qG x σ=some (d,a)∧K d a:=by
 unfold Apl at h
 unfold qG
 split at h
 ·rename_i hxg;simp only [hxg];exact Lv h
 rename_i s want hxg
 simp only [hxg]
 split at h
 ·rename_i b hb
  simp only [hb]
  split at h
  ·simp only [if_true];exact Lv h
  ·simp only [if_true];exact Lv h
  ·simp;exact Zc h
  simp;exact Zc h
 ·rename_i hb
  simp only [hb]
  exact Zc h
 exact h.elim
theorem Ag6 {xs:List Nat} {σ:St} {K:Prop} : ∀ {A:List (Nat×G)},Akm xs σ K A→Aux A xs σ∧K:=by
 intro A
 induction A with
 | nil=>intro h;exact ⟨(fun e he=>by cases he),h⟩
 | cons e r ih=>
   intro h
   change (match xs.contains e.1 with
    | true=>Apl e.2 σ fun d a=>match Arg a d σ with
      | true=>SameQ (look σ d) a (Akm xs σ K r)
      | false=>False
    | false=>Akm xs σ K r) at h
   split at h
   ·obtain ⟨d,a,h1,h2⟩:=Apb h
    split at h2
    ·rename_i hu
     obtain ⟨h3,h4⟩:=h2.h
     obtain ⟨h5,h6⟩:=ih h4
     refine ⟨fun f hf hx=> ?_,h6⟩
     rcases List.mem_cons.1 hf with rfl | hf
     ·exact ⟨d,a,h1,h3,hu⟩
     ·exact h5 f hf hx
    ·exact h2.elim
   ·rename_i hx
    obtain ⟨h5,h6⟩:=ih h
    refine ⟨fun f hf hx2=> ?_,h6⟩
    rcases List.mem_cons.1 hf with rfl | hf
    ·rw [hx] at hx2;cases hx2
    ·exact h5 f hf hx2
theorem Ap8 {P:Program} {A:List (Nat×G)} {K:St→Prop} : ∀ {pl:LPlan} {b:Bool} {σ},Akt P A K pl b σ→Pb P A K pl b σ:=by
 intro pl
 induction pl with
 | nil=>intro b σ h hb;subst hb;exact h
 | alt i x xs ds nx ot ih1 ih2=>
   intro b σ h
   cases ot with
   | nil=>
     change Akm xs σ (Vw P x ds σ (Akt P A K nx true)) A at h
     obtain ⟨h1,h2⟩:=Ag6 h
     exact ⟨⟨h1,E5 (fun _=>ih1) (Zs h2)⟩,fun hb=>by cases hb⟩
   | alt j y ys es ny oy=>
     change Two (Akm xs σ (Vw P x ds σ (Akt P A K nx true)) A) (Akt P A K (.alt j y ys es ny oy) false σ) at h
     obtain ⟨h1,h2⟩:=Ag6 h.h.1
     exact ⟨⟨h1,E5 (fun _=>ih1) (Zs h2)⟩,ih2 h.h.2⟩
structure TokE (u:V) (tv:Value) (K:V→Prop):Prop where
 h : ∃f cs,u = .clov tv f cs∧K u
def Aag:List Nat→(St→Prop)→St→Prop
 | [],K,σ=>K σ
 | e::r,K,σ=>match look σ (e%100000) with
   | .val (.raw tv)=>(match look σ ((e/100000-1000)/100) with
     | .val T=>Tn [e/100000%100] T fun u=>TokE u tv fun u=>Ei [e/100000%100] T .dead fun T'=>Bi (Ak (e%100000) (.val u) (Ak (e%100000) .top (turnP ((e/100000-1000)/100) T' [e/100000%100] σ))) (Aag r K)
     | _=>Aag r K σ)
   | .val T=>FrzQ T (e/100000) fun T'=>Bi (Ak (e%100000) (.val T') (Ak (e%100000) .top σ)) (Aag r K)
   | .ref q []=>(match look σ q with
     | .val T=>(match Nat.blt q 100000 with
       | true=>FrzQ T 0 fun T'=>Bi (Ak (e%100000) (.val T') (Ak (e%100000) .top (Ak q (.val T') (Ak q .top σ)))) (Aag r K)
       | false=>Aag r K σ)
     | _=>Aag r K σ)
   | .ref q (c::p)=>(match Nat.beq (e/100000) 900 with
     | true=>(match look σ q with
       | .val T=>Tn (c::p) T fun u=>Ei (c::p) T .dead fun T'=>Bi (unP (e%100000) q (c::p) u T' σ) (Aag r K)
       | _=>Aag r K σ)
     | false=>Aag r K σ)
   | .rfv _ _ []=>BakQ e σ (Aag r K)
   | .rfv tv x (c0::p)=>(match Nat.beq (e/100000) 901 with
     | true=>(match look σ (e%100000+1) with
       | .rfv tv' x' (c'::p')=>SameT tv' tv (match look (Ak (e%100000) .top (Ak (e%100000+1) .top σ)) x with
         | .val T=>Tn (c0::p) T fun u=>Ei (c0::p) T (.raw tv) fun T0=>FrzQ u 0 fun uf=>Ei (c0::p) T0 uf fun T1=>(match look (turnP x T1 (c0::p) (turnP x T0 (c0::p) (Ak (e%100000) .top (Ak (e%100000+1) .top σ)))) x' with
           | .val B=>Tn (c'::p') B fun b=>(match b with
             | .raw _=>Ei (c'::p') B uf fun B'=>Bi (turnP x' B' (c'::p') (turnP x T1 (c0::p) (turnP x T0 (c0::p) (Ak (e%100000) .top (Ak (e%100000+1) .top σ))))) (Aag r K)
             | _=>False)
           | _=>False)
         | _=>False)
       | _=>False)
     | false=>(match look σ x with
       | .val T=>Tn (c0::p) T fun u=>Ei (c0::p) T (.raw tv) fun T'=>(match look (turnP x T' (c0::p) σ) ((e/100000-1000)/100) with
         | .val B=>Tn [e/100000%100] B fun b=>(match b with
           | .raw tv'=>SameT tv' tv (Ei [e/100000%100] B u fun B'=>Bi (Ak (e%100000+1) (.rfv tv x (c0::p)) (Ak (e%100000) (.rfv tv ((e/100000-1000)/100) [e/100000%100]) (turnP ((e/100000-1000)/100) B' [e/100000%100] (turnP x T' (c0::p) σ)))) (Aag r K))
           | _=>False)
         | _=>False)
       | _=>False))
   | _=>Aag r K σ
theorem At7 : ∀ {ss:List Nat} {K:St→Prop} {σ:St},Aag ss K σ→K (A0m ss σ):=by
 intro ss
 induction ss with
 | nil=>intro K σ h;exact h
 | cons e r ih=>
   intro K σ h
   simp only [Aag] at h
   simp only [A0m]
   split at h
   ·rename_i tv hT
    split at h
    ·rename_i T hq
     obtain ⟨u,hu,h1⟩:=Fm h
     obtain ⟨f,cs,rfl,h2⟩:=h1.h
     obtain ⟨T',hT',h3⟩:=Bq h2
     rw [Aq] at h3
     have e2:Nd e σ=Ak (e%100000) (.val (.clov tv f cs)) (Ak (e%100000) .top (turnP ((e/100000-1000)/100) T' [e/100000%100] σ)):=by
      simp only [Nd,hT,Az4,hq,hu]
      split
      ·simp only [hT']
      ·rename_i hne _;exact absurd rfl hne
     rw [e2]
     exact ih h3
    ·rename_i hne
     have e2:Nd e σ=σ:=by
      simp only [Nd,hT,Az4]
     rw [e2]
     exact ih h
   ·rename_i T hraw hT
    obtain ⟨T',h1,h2⟩:=h.h
    subst h1
    rw [Aq] at h2
    have e2:Nd e σ=Afr e σ:=by
     unfold Nd
     split
     ·rename_i tv hT2;rw [hT] at hT2;cases hT2;exact (hraw tv rfl).elim
     ·rename_i hT2;rw [hT] at hT2;cases hT2
     ·rename_i hT2;rw [hT] at hT2;cases hT2
     ·rename_i hT2;rw [hT] at hT2;cases hT2
     ·rename_i hT2;rw [hT] at hT2;cases hT2
     ·rfl
    rw [e2]
    simp only [Afr,hT]
    exact ih h2
   ·rename_i q hT
    split at h
    ·rename_i T hq
     split at h
     ·rename_i hb
      obtain ⟨T',h1,h2⟩:=h.h
      rw [Al] at h1
      subst h1
      rw [Aq] at h2
      simp only [Nd,hT,hq,hb]
      exact ih h2
     ·rename_i hb
      simp only [Nd,hT,hq,hb]
      exact ih h
    ·rename_i hne
     have e2:Nd e σ=σ:=by
      simp only [Nd,hT]
     rw [e2]
     exact ih h
   ·rename_i q c p hT
    split at h
    ·rename_i h9
     split at h
     ·rename_i T hq
      obtain ⟨u,hu,h1⟩:=Fm h
      obtain ⟨T',hT',h2⟩:=Bq h1
      rw [Aq] at h2
      have e2:Nd e σ=unP (e%100000) q (c::p) u T' σ:=by
       simp only [Nd,hT,h9,Ay4,hq,hu,hT']
      rw [e2]
      exact ih h2
     ·rename_i hne
      have e2:Nd e σ=σ:=by
       simp only [Nd,hT,h9,Ay4]
      rw [e2]
      exact ih h
    ·rename_i h9
     have e2:Nd e σ=σ:=by
      simp only [Nd,hT,h9]
     rw [e2]
     exact ih h
   ·exact ih h.h
   ·rename_i tv x c0 p hT
    split at h
    ·rename_i h9
     split at h
     case h_2=>exact h.elim
     rename_i tv' x' c' p' hE
     obtain ⟨etv,h⟩:=h.h
     subst etv
     split at h
     case h_2=>exact h.elim
     rename_i T hq
     obtain ⟨u,hu,h⟩:=Fm h
     obtain ⟨T0,hT0,h⟩:=Bq h
     obtain ⟨uf,huf,h⟩:=h.h
     rw [Al] at huf
     subst huf
     obtain ⟨T1,hT1,h⟩:=Bq h
     split at h
     case h_2=>exact h.elim
     rename_i B hB
     obtain ⟨b,hb,h⟩:=Fm h
     split at h
     case h_2=>exact h.elim
     rename_i tv2
     obtain ⟨B',hB',h⟩:=Bq h
     rw [Aq] at h
     have e2:Nd e σ=turnP x' B' (c'::p') (turnP x T1 (c0::p) (turnP x T0 (c0::p) (Ak (e%100000) .top (Ak (e%100000+1) .top σ)))):=by
      simp only [Nd,hT,h9,A0x,hE]
      split
      ·simp only [hq,hu,hT0,hT1,hB,hb,hB']
      ·rename_i hne _;exact absurd rfl hne
     rw [e2]
     exact ih h
    ·rename_i h9
     split at h
     case h_2=>exact h.elim
     rename_i T hq
     obtain ⟨u,hu,h⟩:=Fm h
     obtain ⟨T',hT',h⟩:=Bq h
     split at h
     case h_2=>exact h.elim
     rename_i B hB
     obtain ⟨b,hb,h⟩:=Fm h
     split at h
     case h_2=>exact h.elim
     rename_i tv'
     obtain ⟨etv,h⟩:=h.h
     subst etv
     obtain ⟨B',hB',h⟩:=Bq h
     rw [Aq] at h
     have e2:Nd e σ=Ak (e%100000+1) (.rfv tv' x (c0::p)) (Ak (e%100000) (.rfv tv' ((e/100000-1000)/100) [e/100000%100]) (turnP ((e/100000-1000)/100) B' [e/100000%100] (turnP x T' (c0::p) σ))):=by
      simp only [Nd,hT,h9,A13,hq,hu,hT',hB,hb]
      split
      ·simp only [hB']
      ·rename_i hne _;exact absurd rfl hne
     rw [e2]
     exact ih h
   ·rename_i hne hne2 hne3 hne5 hne4
    have e2:Nd e σ=σ:=by
     unfold Nd
     split
     ·rename_i tv hV;exact absurd hV (hne _)
     ·rename_i tv x c0 p hV;exact absurd hV (hne4 _ _ _ _)
     ·rename_i tv x hV;exact absurd hV (hne5 _ _)
     ·rename_i q c p hq;exact absurd hq (hne3 q c p)
     ·rename_i q hq;exact absurd hq (hne2 q)
     ·unfold Afr
      split
      ·rename_i V hV;exact absurd hV (hne V)
      ·rfl
    rw [e2]
    exact ih h
structure LoopQ (P:Program) (c:ACode) (Q:Ex→St→Prop) (σ:St):Prop where
 h:awp P (.loop c) Q σ
structure CutQ (P:Program) (c:ACode) (Q:Ex→St→Prop) (σ:St):Prop where
 h:awp P (.cut c) Q σ
def vc (P:Program):ACode→(Ex→St→Prop)→St→Prop
 | .skip,Q,σ=>Q .normal σ
 | .reg gs,Q,σ=>Pr P gs (Q .normal) σ
 | .dreg pre post,Q,σ=>An0 P (Tw pre) σ pre [] [] [] (Pr P post (Q .normal))
 | .dregp n0 ds pre post,Q,σ=>Pr P ((pre.take n0).map (·.1)) (fun σ1=>match Adf n0 (Id ds σ1) with
   | true=>Bi (Id ds σ1) fun σ2=>Bi (Wg n0) fun acc=>An0 P (Tw pre) σ2 (pre.drop n0) acc [] [] (Pr P post (Q .normal))
   | false=>False) σ
 | .seq a b,Q,σ=>vc P a (Aax (vc P b Q) Q) σ
 | .cond x t e,Q,σ=>match Ai σ x with
   | .val (.bool b)=>Br b (Bi (A32 x true σ) (vc P t Q)) (Bi (A32 x false σ) (vc P e Q))
   | _=>False
 | .block i c,Q,σ=>vc P c (Aob i Q) σ
 | .loop c,Q,σ=>LoopQ P c Q σ
 | .exit i,Q,σ=>Q (.exit i) σ
 | .ret,Q,σ=>Q .ret σ
 | .drop ds c,Q,σ=>Bi (Id ds σ) (vc P c Q)
 | .cut c,Q,σ=>CutQ P c Q σ
 | .dregl A pl,Q,σ=>Apa A (Akt P A (Q .normal) pl true) σ
 | .frz ss c,Q,σ=>Aag ss (vc P c Q) σ
 | .nam g1 g2 x k e,Q,σ=>Pr P g1 (fun σ1=>match look σ1 x with
   | .agg as=>(match as[k]? with
     | some (.ref r p)=>Xg (look σ1 r) p fun u=>(match u with
       | .sl o m xs=>(match o with
         | true=>NamQ fun q n c=>Bi (Ak e (.rfv (.slice q n c) r p) (Ak x (.agg (as.set k (.val (.raw (.slice q n c))))) σ1)) (Pr P g2 (Q .normal))
         | false=>False)
       | _=>False)
     | _=>False)
   | _=>False) σ
theorem Avw {x:X} {b:Bool} {σ:St} (h:Ai σ x = .val (.bool b)):A32 x b σ=σ:=by
 cases x with
 | c v=>rfl
 | t s=>
   refine Fb ?_
   simp only [Ai] at h
   split at h
   ·rename_i v hv
    split at h
    ·cases h
    ·rw [hv];exact h
   ·exact h
theorem Y3 {P:Program} : ∀ {c:ACode} {Q:Ex→St→Prop} {σ:St},vc P c Q σ→awp P c Q σ:=by
 intro c
 induction c with
 | skip=>intro Q σ h;exact h
 | reg gs=>intro Q σ h;exact L3 h
 | dreg pre post=>intro Q σ h;exact Tb (fun _=>L3) (Agp rfl rfl (by simp) h)
 | dregp n0 ds pre post=>
   intro Q σ h
   refine E5 (fun σ1 h1=> ?_) (L3 h)
   split at h1
   ·rename_i hd
    rw [Aq,Aq] at h1
    refine ⟨hd,Tb (fun _=>L3) (Agp (by simp) (by simp) (by simp) h1)⟩
   ·exact h1.elim
 | seq a b ih1 ih2=>
   intro Q σ h
   have h':vc P a (Aax (vc P b Q) Q) σ:=h
   show awp P a (Aax (awp P b Q) Q) σ
   exact Sl (Q:=Aax (vc P b Q) Q) (Oz (fun _ hh=>ih2 hh) fun _ _=>id) (ih1 h')
 | cond x t e ih1 ih2=>
   intro Q σ h
   simp only [vc] at h
   simp only [awp]
   split at h
   ·rename_i b hb
    simp only [hb]
    refine ⟨fun e=> ?_,fun e=> ?_⟩
    ·subst e
     have:=h.t rfl
     rw [Aq,Avw hb] at this
     exact ih1 this
    ·subst e
     have:=h.f rfl
     rw [Aq,Avw hb] at this
     exact ih2 this
   ·exact h.elim
 | block i c ih=>intro Q σ h;exact ih h
 | loop c ih=>intro Q σ h;exact h.h
 | exit i=>intro Q σ h;exact h
 | ret=>intro Q σ h;exact h
 | drop ds c ih=>intro Q σ h;simp only [vc] at h;rw [Aq] at h;exact ih h
 | cut c ih=>intro Q σ h;exact h.h
 | frz ss c ih=>intro Q σ h;simp only [vc] at h;exact ih (At7 h)
 | nam g1 g2 x k e=>
   intro Q σ h
   simp only [vc] at h
   refine E5 (fun σ1 h q n c=> ?_) (L3 h)
   split at h
   case h_2=>exact h.elim
   rename_i as hx
   split at h
   case h_2=>exact h.elim
   rename_i r p hk
   obtain ⟨T,u,hT,hs,hn,h⟩:=Hp h
   split at h
   case h_2=>exact h.elim
   rename_i o m xs
   split at h
   case h_2=>exact h.elim
   have h:=h.h q n c
   rw [Aq] at h
   have e2:Ay3 (.slice q n c) x k e σ1=Ak e (.rfv (.slice q n c) r p) (Ak x (.agg (as.set k (.val (.raw (.slice q n c))))) σ1):=by
    simp only [Ay3,hx,hk,hn]
   rw [e2]
   exact L3 h
 | dregl A R=>intro Q σ h;exact Aa1 (fun _=>Ap8) (Amz h)
theorem Afp {P:Program} {f N:Nat} {ac:ACode} {rs:List RS} {args:List V} {R:V→List V→Prop} (hf:A5 P f N ac rs=true) (hn:args.length≤N)
  (h:vc P ac (Ao9 N rs args R) (entry N 0 args)):Tri P f args R:=Ayd hf hn (Y3 h)
def A31 {α:Type} (ks:List Nat) (st:α→St) (inv:α→Prop) (μ:α→Nat) (a:α) (σ:St):Prop := ∃b,restrict ks σ=st b∧inv b∧μ b<μ a
theorem LoopQ.by {α:Type} {P:Program} {c:ACode} {Q:Ex→St→Prop} {σ:St} (ks:List Nat) (st:α→St) (inv:α→Prop) (μ:α→Nat) (a0:α) (h0:restrict ks σ=st a0) (hi:inv a0)
  (hr : ∀a,inv a→vc P c (Aax (A31 ks st inv μ a) Q) (st a)):LoopQ P c Q σ:=by
 refine ⟨Azv ks (fun n σ => ∃a,σ=st a∧inv a∧n=μ a) (μ a0) ⟨a0,h0,hi,rfl⟩ ?_⟩
 rintro n σ ⟨a,rfl,ha,rfl⟩
 refine Sl (Oz ?_ fun _ _=> .inl) (Y3 (hr a ha))
 rintro σ' ⟨b,h1,h2,h3⟩
 exact ⟨μ b,h3,b,h1,h2,rfl⟩
def Ret (P:Program) (f:Nat) (vs:List V) (v:V):Prop:=Tri P f vs (fun r _=>r=v)
theorem Ba {P:Program} {f N:Nat} {ac:ACode} {rs:List RS} {args:List V} {v:V} (hf:A5 P f N ac rs=true) (hn:args.length≤N)
  (h:vc P ac (Ao9 N rs args fun r _=>r=v) (entry N 0 args)):Ret P f args v:=Afp hf hn h
abbrev Ae (n:Int):V:= .int .i64 n
end Go.Proofs.Ytmmcfdfdacpjgaa.Ax
namespace Go.Proofs.Ytmmcfdfdacpjgaa.Ax
open Go
noncomputable def ask {α:Type} (p:Prop) (x:Option α):Option α:=@ite _ p (Classical.propDecidable p) x none
def nth {α:Type} [Inhabited α] (xs:List α) (i:Nat):α:=xs.getD i default
theorem Sh {α:Type} {p:Prop} {x:Option α} {v:α}:ask p x=some v↔p∧x=some v:=by
 unfold ask;split<;>simp_all
theorem Ag {α:Type} {p:Prop} {x:Option α} (h:p):ask p x=x:=by unfold ask;rw [if_pos h]
def Aht {σ τ:Type} (body:σ→Option (σ ⊕ τ)):Nat→σ→Option τ
 | 0,_=>none
 | n+1,s=>match body s with
   | none=>none
   | some (.inl s')=>Aht body n s'
   | some (.inr t)=>some t
theorem Au3 {σ τ:Type} {body:σ→Option (σ ⊕ τ)} : ∀ {n m:Nat} {s:σ} {t:τ},n≤m→Aht body n s=some t→Aht body m s=some t:=by
 intro n
 induction n with
 | zero=>intro m s t _ h;cases h
 | succ n ih=>
   intro m s t hm h
   match m,hm with
   | m+1,hm=>
     simp only [Aht] at h ⊢
     split at h
     ·cases h
     ·exact ih (by omega) h
     ·exact h
open Classical in
noncomputable def Am {σ τ:Type} (body:σ→Option (σ ⊕ τ)) (s:σ):Option τ:=if h : ∃t n,Aht body n s=some t then some (Classical.choose h) else none
theorem O5 {σ τ:Type} {body:σ→Option (σ ⊕ τ)} {s:σ} {t:τ}:Am body s=some t ↔ ∃n,Aht body n s=some t:=by
 unfold Am
 constructor
 ·intro h
  split at h
  ·rename_i hx
   cases h
   exact Classical.choose_spec hx
  cases h
 rintro ⟨n,hn⟩
 rw [dif_pos ⟨t,n,hn⟩]
 obtain ⟨m,hm⟩:=Classical.choose_spec (⟨t,n,hn⟩ : ∃t n,Aht body n s=some t)
 have h1:=Au3 (Nat.le_max_left n m) hn
 have h2:=Au3 (Nat.le_max_right n m) hm
 rw [h1] at h2
 exact h2.symm
theorem Aqy {σ τ:Type} (body:σ→Option (σ ⊕ τ)) (s:σ):Am body s=(match body s with
  | none=>none
  | some (.inl s')=>Am body s'
  | some (.inr t)=>some t):=by
 apply Option.ext
 intro t
 rw [O5]
 constructor
 ·rintro ⟨n,hn⟩
  cases n with
  | zero=>cases hn
  | succ n=>
    simp only [Aht] at hn
    split at hn
    ·cases hn
    ·exact O5.2 ⟨n,hn⟩
    ·exact hn
 intro h
 split at h
 ·cases h
 ·rename_i s' e
  obtain ⟨n,hn⟩:=O5.1 h
  exact ⟨n+1,by simp only [Aht,e];exact hn⟩
 rename_i t' e
 exact ⟨1,by simp only [Aht,e];exact h⟩
def upO {α:Type} (f:Nat→Option α):Prop := ∀n m v,n≤m→f n=some v→f m=some v
open Classical in
noncomputable def A0a {α:Type} (f:Nat→Option α):Option α:=if h : ∃v n,f n=some v then some (Classical.choose h) else none
theorem Axn {α:Type} {f:Nat→Option α} {v:α} (h:A0a f=some v) : ∃n,f n=some v:=by
 unfold A0a at h
 split at h
 ·rename_i hx
  cases h
  exact Classical.choose_spec hx
 cases h
theorem A10 {α:Type} {f:Nat→Option α} (hu:upO f) {v:α} {n:Nat} (h:f n=some v):A0a f=some v:=by
 unfold A0a
 rw [dif_pos ⟨v,n,h⟩]
 obtain ⟨m,hm⟩:=Classical.choose_spec (⟨v,n,h⟩ : ∃v n,f n=some v)
 have h1:=hu _ _ _ (Nat.le_max_left n m) h
 have h2:=hu _ _ _ (Nat.le_max_right n m) hm
 rw [h1] at h2
 exact h2.symm
abbrev Ar (α:Type):List α:=[]
abbrev slr {α:Type} (o:Bool) (m:Nat) (f:α→V) (xs:List α):V:= .sl o m (xs.map f)
class Fz {α:Type} (f:α→V) (g:outParam (α→V)):Prop where
 eq : ∀x,(f x).fz=g x
instance {k:IntKind}:Fz (V.int k) (V.int k):=⟨fun _=>rfl⟩
instance:Fz Ae Ae:=⟨fun _=>rfl⟩
instance:Fz V.bool V.bool:=⟨fun _=>rfl⟩
instance:Fz V.str V.str:=⟨fun _=>rfl⟩
theorem Ab {α:Type} (f:α→V) {g:α→V} [Fz f g] (xs:List α):fzL (xs.map f)=xs.map g:=by
 induction xs with
 | nil=>rfl
 | cons x r ih=>simp [fzL,Fz.eq,ih]
instance {α:Type} (m:Nat) (f g:α→V) [Fz f g]:Fz (slr true m f) (slr false m g):=⟨fun x=>by simp [slr,V.fz,Ab]⟩
instance {α:Type} (m:Nat) (f:α→V):Fz (slr false m f) (slr false m f):=⟨fun x=>by simp [slr,V.fz]⟩
theorem Ac {α:Type} (m:Nat) (f:α→V) {g:α→V} [Fz f g] (xs:List α):V.fz (.sl true m (xs.map f)) = .sl false m (xs.map g):=by simp [V.fz,Ab]
theorem Ad {α:Type} (f:α→V) {g:α→V} [Fz f g] (x:α):V.fz (f x)=g x:=Fz.eq x
abbrev rA2 {α:Type} (f:α→V) (p:α×α):V:= .agg [f p.1,f p.2]
abbrev rA3 {α:Type} (f:α→V) (p:α×α×α):V:= .agg [f p.1,f p.2.1,f p.2.2]
abbrev rP {α:Type} (o:Bool) (f:α→V) (x:α):V:= .ptr o (f x)
abbrev rO {α:Type} (o:Bool) (f:α→V):Option α→V
 | none=> .nilp
 | some x=> .ptr o (f x)
abbrev rOl {α:Type} (m:Nat) (f:α→V):Option (List α)→V
 | none=> .nl m
 | some xs=> .sl false m (xs.map f)
abbrev rMp {β:Type} (o:Bool) (f:β→Lf) (l:List (ByteArray×β)):V:= .mp o (.s (l.map fun e=>(e.1,f e.2)))
instance {β:Type} (o:Bool) (f:β→Lf):Fz (rMp o f) (rMp false f):=⟨fun x=>by simp [V.fz]⟩
abbrev rMi {β:Type} (o:Bool) (f:β→Lf) (l:List (Int×β)):V:= .mp o (.i (l.map fun e=>(e.1,f e.2)))
instance {β:Type} (o:Bool) (f:β→Lf):Fz (rMi o f) (rMi false f):=⟨fun x=>by simp [V.fz]⟩
theorem LkQ.one {κ:Type} [DecidableEq κ] {β:Type} (f:β→Lf) (g:β→V) (l:List (κ×β)) (z0:β) {es:List (κ×Lf)} {s:κ} {z:Lf} {K:V→Prop} (e:es=l.map fun e=>(e.1,f e.2)) (hz:z=f z0) (hg : ∀b,(f b).v=g b)
  (h:K (g ((Dz l s).getD z0))):LkQ es s z false K:=by
 subst e;subst hz
 refine ⟨?_⟩
 unfold As9
 rw [Afa,Option.getD_map,hg]
 exact h
theorem LkQ.two {κ:Type} [DecidableEq κ] {β:Type} (f:β→Lf) (g:β→V) (l:List (κ×β)) (z0:β) {es:List (κ×Lf)} {s:κ} {z:Lf} {K:V→Prop} (e:es=l.map fun e=>(e.1,f e.2)) (hz:z=f z0) (hg : ∀b,(f b).v=g b)
  (h:K (.tup [g ((Dz l s).getD z0),.bool (Dz l s).isSome])):LkQ es s z true K:=by
 subst e;subst hz
 refine ⟨?_⟩
 unfold As9
 rw [Afa,Option.getD_map,hg,Option.isSome_map]
 exact h
theorem MsQ.o {κ:Type} [DecidableEq κ] {β:Type} (f:β→Lf) (l:List (κ×β)) (b:β) {es:List (κ×Lf)} {s:κ} {x:Lf} {K:List (κ×Lf)→Prop} (e:es=l.map fun e=>(e.1,f e.2)) (hx:x=f b)
  (h:K ((L9 l s b).map fun e=>(e.1,f e.2))):MsQ es s x K:=by
 subst e;subst hx
 exact ⟨by rw [Ana];exact h⟩
theorem BsQ.o (ns:List Int) {xs:List V} {K:ByteArray→Prop} (e:xs=ns.map (V.int .u8)) (h:K (Xp ns)):BsQ xs K:=by
 subst e
 exact ⟨ns,Aum ns,h⟩
instance {α:Type} (f g:α→V) [Fz f g]:Fz (rP true f) (rP false g):=⟨fun x=>by simp [V.fz,Fz.eq]⟩
instance {α:Type} (m:Nat) (f:α→V):Fz (rOl m f) (rOl m f):=⟨fun x=>by cases x<;>simp [rOl,V.fz]⟩
instance {α:Type} (f g:α→V) [Fz f g]:Fz (rO true f) (rO false g):=⟨fun x=>by cases x<;>simp [rO,V.fz,Fz.eq]⟩
instance {α:Type} (f g:α→V) [Fz f g]:Fz (rA2 f) (rA2 g):=⟨fun x=>by simp [V.fz,fzL,Fz.eq]⟩
instance {α:Type} (f g:α→V) [Fz f g]:Fz (rA3 f) (rA3 g):=⟨fun x=>by simp [V.fz,fzL,Fz.eq]⟩
def One {α:Type} (f:α→V):Prop := ∀x,(f x).cells=[f x]∧(f x).isAgg=false
def X9 {α:Type} (m:Nat) (f:α→V):Prop := ∀x,(f x).cells.length=m∧Cj (f x).cells=true
section
variable {α ρ:Type} {v:ρ} {x y:Option ρ} {X Y:Prop}
theorem Br.od {p:Prop} [Decidable p] (h:(if p then x else y)=some v) (h1:p→x=some v→X) (h2:¬p→y=some v→Y):Br (decide p) X Y:=by
 by_cases hp:p
 ·rw [if_pos hp] at h;exact ⟨fun _=>h1 hp h,fun e=>absurd hp (of_decide_eq_false e)⟩
 rw [if_neg hp] at h;exact ⟨fun e=>absurd (of_decide_eq_true e) hp,fun _=>h2 hp h⟩
theorem Br.oe {a b:Int} (h:(if a=b then x else y)=some v) (h1:a=b→x=some v→X) (h2:¬a=b→y=some v→Y):Br (a==b) X Y:=by
 have:(a==b)=decide (a=b):=by rw [Bool.eq_iff_iff];simp
 rw [this];exact Br.od h h1 h2
theorem Br.on {a b:Int} (h:(if a≠b then x else y)=some v) (h1:a≠b→x=some v→X) (h2:¬a≠b→y=some v→Y):Br (a != b) X Y:=by
 have:(a != b)=decide (a≠b):=by rw [Bool.eq_iff_iff];simp
 rw [this];exact Br.od h h1 h2
theorem Br.ob {b:Bool} (h:(if b=true then x else y)=some v) (h1:b=true→x=some v→X) (h2:¬b=true→y=some v→Y):Br b X Y:=by
 cases b
 ·exact ⟨fun e=>Bool.noConfusion e,fun _=>h2 (by simp) (by simpa using h)⟩
 exact ⟨fun _=>h1 rfl (by simpa using h),fun e=>Bool.noConfusion e⟩
theorem Br.flip {b:Bool} (h:Br b Y X):Br (!b) X Y:=by
 cases b
 ·exact ⟨fun _=>h.f rfl,fun e=>Bool.noConfusion e⟩
 exact ⟨fun e=>Bool.noConfusion e,fun _=>h.t rfl⟩
theorem Ask.o {p:Prop} (h:ask p x=some v) (hk:p→x=some v→X):Ask p X:=by
 obtain ⟨h1,h2⟩:=Sh.1 h
 exact ⟨h1,hk h1 h2⟩
theorem Len.mrep {f:α→V} {w:α} {n:Nat} {K:Nat→Prop} (h:K n):Len ((List.replicate n w).map f) K:=⟨by rw [List.length_map,List.length_replicate];exact h⟩
variable {f:α→V}
theorem A2r [Inhabited α] (f:α→V) {xs:List α} {j:Nat} (hj:j<xs.length):(xs.map f).getD j .dead=f (nth xs j):=by
 simp [List.getD_eq_getElem?_getD,nth,hj]
theorem Elem.o [Inhabited α] {xs:List α} {j:Nat} {K:V→Prop} (hj:j<xs.length) (hk:K (f (nth xs j))):Elem (xs.map f) j K:=⟨by rw [A2r f hj];exact hk⟩
theorem Aco (hf:One f) (xs:List α):Ay (xs.map f)=xs.map f:=by
 induction xs with
 | nil=>rfl
 | cons x r ih=>simp only [List.map_cons,Ay,(hf x).1,ih];rfl
theorem Azc [Inhabited α] (f:α→V) {xs:List α} {c:Nat} (hc:c<xs.length):(xs.map f).drop c=f (nth xs c)::(xs.map f).drop (c+1):=by
 rw [List.drop_eq_getElem_cons (by simpa using hc)]
 simp [nth,List.getD_eq_getElem?_getD,hc]
theorem Cells.one [Inhabited α] (hf:One f) {xs:List α} {c:Nat} {K:List V→Prop} (hc:c<xs.length) (hk:K [f (nth xs c)]):Cells (Ay (xs.map f)) c 1 K:=by
 refine ⟨_,?_,?_,hk⟩
 ·rw [Aco hf,List.length_map];exact hc
 rw [Aco hf,Azc f hc];rfl
theorem Am7 [Inhabited α] {m:Nat} (hf:X9 m f) : ∀ {xs:List α} {i:Nat},i<xs.length → ∃l r,Ay (xs.map f)=l++((f (nth xs i)).cells++r)∧l.length=i*m:=by
 intro xs
 induction xs with
 | nil=>intro i h;simp at h
 | cons x t ih=>
   intro i h
   cases i with
   | zero=>exact ⟨[],Ay (t.map f),rfl,by simp⟩
   | succ i=>
     obtain ⟨l,r,e,hl⟩:=ih (i:=i) (by simpa using h)
     refine ⟨(f x).cells++l,r,by simp only [List.map_cons,Ay,e,List.append_assoc];rfl,?_⟩
     rw [List.length_append,(hf x).1,hl,Nat.succ_mul];omega
theorem Cells.wide [Inhabited α] {m:Nat} (hf:X9 m f) {xs:List α} {i off n:Nat} {K:List V→Prop} (hi:i<xs.length) (hn:off+n≤m) (hk:K (((f (nth xs i)).cells.drop off).take n)) :
  Cells (Ay (xs.map f)) (At i m+off) n K:=by
 obtain ⟨l,r,e,hl⟩:=Am7 hf hi
 have hw:=(hf (nth xs i)).1
 refine ⟨_,?_,?_,hk⟩
 ·rw [e,W6,List.length_append,List.length_append,hl,hw];omega
 rw [e,W6,←hl,←List.drop_drop,List.drop_left,List.drop_append_of_le_length (by omega),List.take_append_of_le_length (by simp;omega)]
theorem Cells.lit {xs us:List V} {c n:Nat} {K:List V→Prop} (h:Nat.ble (c+n) xs.length=true) (e:(xs.drop c).take n=us) (hk:K us):Cells xs c n K:=⟨us,Nat.le_of_ble_eq_true h,e,hk⟩
theorem Kid.one [Inhabited α] (hf:One f) {m:Nat} {xs:List α} {c:Nat} {K:V→Prop} (hc:c<xs.length) (hk:K (f (nth xs c))):Kid (.sl true m (xs.map f)) c K:=
 ⟨_,rfl,by simp only [V.kids,Aco hf];simp [nth,List.getD_eq_getElem?_getD,hc],hk⟩
theorem Kid.wide [Inhabited α] {m:Nat} (hf:X9 m f) {xs:List α} {i off:Nat} {u:V} {K:V→Prop} (hi:i<xs.length) (hu:(f (nth xs i)).cells[off]? = some u) (hk:K u):Kid (.sl true m (xs.map f)) (At i m+off) K:=by
 obtain ⟨l,r,e,hl⟩:=Am7 hf hi
 refine ⟨u,rfl,?_,hk⟩
 have ho:off<(f (nth xs i)).cells.length:=(List.getElem?_eq_some_iff.1 hu).1
 simp only [V.kids,e]
 rw [W6,List.getElem?_append_right (by omega),hl,Nat.add_sub_cancel_left,List.getElem?_append_left ho,hu]
theorem Kid.lit {T k:V} {c:Nat} {K:V→Prop} (h1:T.stepOk=true) (h2:T.kids[c]? = some k) (hk:K k):Kid T c K:=⟨k,h1,h2,hk⟩
theorem Awp (hf:One f) : ∀ {xs:List α} {c:Nat} (w:α),c<xs.length→S6 (xs.map f) c [f w]=some ((xs.set c w).map f):=by
 intro xs
 induction xs with
 | nil=>intro c w h;simp at h
 | cons x r ih=>
   intro c w h
   have hlen:(f x).cells.length=1:=by rw [(hf x).1];rfl
   simp only [List.map_cons,S6,hlen]
   cases c with
   | zero=>
     have:(f x).setCells 0 [f w]=some (f w):=by
      have hx:=(hf x).2
      have hv:=(hf w).2
      unfold V.setCells
      split
      ·simp_all [V.isAgg]
      ·simp [Ap6,hv]
     simp [this]
   | succ c=>
     have:=ih (c:=c) w (by simpa using h)
     simp [this]
theorem SetKids.one (hf:One f) {o:Bool} {m:Nat} {xs:List α} {c:Nat} {us:List V} {K:V→Prop} (w:α) (e:us=[f w]) (hc:c<xs.length) (hk:K (.sl o m ((xs.set c w).map f))):SetKids (.sl o m (xs.map f)) c us K:=by
 subst e
 exact ⟨_,by simp only [V.setKids,Awp hf w hc,Option.map_some],hk⟩
theorem At1 [Inhabited α] {m:Nat} (hf:X9 m f) : ∀ {xs:List α} {i off:Nat} {us:List V} (w:α),i<xs.length→(f (nth xs i)).setCells off us=some (f w)→off<m→S6 (xs.map f) (i*m+off) us=some ((xs.set i w).map f):=by
 intro xs
 induction xs with
 | nil=>intro i off us w h;simp at h
 | cons x r ih=>
   intro i off us w h hs ho
   simp only [List.map_cons,S6,(hf x).1]
   cases i with
   | zero=>
     have hs':(f x).setCells off us=some (f w):=hs
     simp [ho,hs']
   | succ i=>
     have:=ih (i:=i) (off:=off) (us:=us) w (by simpa using h) hs ho
     rw [if_neg (by rw [Nat.succ_mul];omega),show (i+1)*m+off-m=i*m+off by rw [Nat.succ_mul];omega,this]
     simp
theorem SetKids.wide [Inhabited α] {m:Nat} (hf:X9 m f) {o:Bool} {xs:List α} {i off:Nat} {us:List V} {K:V→Prop} (w:α) (hi:i<xs.length) (hs:(f (nth xs i)).setCells off us=some (f w)) (ho:off<m) (hk:K (.sl o m ((xs.set i w).map f))) :
  SetKids (.sl o m (xs.map f)) (At i m+off) us K:=
 ⟨_,by simp only [V.setKids,W6,At1 hf w hi hs ho,Option.map_some],hk⟩
theorem Ar2 [Inhabited α] {m:Nat} (hf:X9 m f) : ∀ {xs:List α} {i off:Nat} {us:List V} {v:V},i<xs.length→(f (nth xs i)).setCells off us=some v→off<m→S6 (xs.map f) (i*m+off) us=some (holeW f xs i v):=by
 intro xs
 induction xs with
 | nil=>intro i off us v h;simp at h
 | cons x r ih=>
   intro i off us v h hs ho
   simp only [List.map_cons,S6,(hf x).1,holeW]
   cases i with
   | zero=>
     have hs':(f x).setCells off us=some v:=hs
     simp [ho,hs']
   | succ i=>
     have:=ih (i:=i) (off:=off) (us:=us) (v:=v) (by simpa using h) hs ho
     rw [if_neg (by rw [Nat.succ_mul];omega),show (i+1)*m+off-m=i*m+off by rw [Nat.succ_mul];omega,this]
     simp [holeW]
theorem Asd {m:Nat} (hf:X9 m f) : ∀ {xs:List α} {i off:Nat} {us:List V} {v:V} (w:α),i<xs.length→v.cells.length=m→v.setCells off us=some (f w)→off<m→S6 (holeW f xs i v) (i*m+off) us=some ((xs.set i w).map f):=by
 intro xs
 induction xs with
 | nil=>intro i off us v w h;simp at h
 | cons x r ih=>
   intro i off us v w h hv hs ho
   cases i with
   | zero=>simp [holeW,S6,hv,ho,hs]
   | succ i=>
     have:=ih (i:=i) (off:=off) (us:=us) (v:=v) w (by simpa using h) hv hs ho
     simp only [holeW,List.map_cons,List.set_cons_succ,S6,(hf x).1] at this ⊢
     rw [if_neg (by rw [Nat.succ_mul];omega),show (i+1)*m+off-m=i*m+off by rw [Nat.succ_mul];omega,this]
     simp
theorem Len.holeW {xs:List α} {i:Nat} {v:V} {K:Nat→Prop} (h:K xs.length):Len (holeW f xs i v) K:=⟨by simp only [Ax.holeW,List.length_set,List.length_map];exact h⟩
theorem SetKids.mkholeW [Inhabited α] {m:Nat} (hf:X9 m f) {o:Bool} {xs:List α} {i off:Nat} {us:List V} {K:V→Prop} (v:V) (hi:i<xs.length) (hs:(f (nth xs i)).setCells off us=some v) (ho:off<m) (hk:K (.sl o m (holeW f xs i v))) :
  SetKids (.sl o m (xs.map f)) (At i m+off) us K:=
 ⟨_,by simp only [V.setKids,W6,Ar2 hf hi hs ho,Option.map_some],hk⟩
theorem SetKids.fillW {m:Nat} (hf:X9 m f) {o:Bool} {xs:List α} {i off:Nat} {us:List V} {v:V} {K:V→Prop} (w:α) (hi:i<xs.length) (hv:v.cells.length=m) (hs:v.setCells off us=some (f w)) (ho:off<m) (hk:K (.sl o m ((xs.set i w).map f))) :
  SetKids (.sl o m (holeW f xs i v)) (At i m+off) us K:=
 ⟨_,by simp only [V.setKids,W6,Asd hf w hi hv hs ho,Option.map_some],hk⟩
theorem SetKids.lit {T T':V} {c:Nat} {us:List V} {K:V→Prop} (h:T.setKids c us=some T') (hk:K T'):SetKids T c us K:=⟨T',h,hk⟩
theorem MkQ.o {d n:Nat} {z:V} {K:List V→Prop} (f:α→V) (w:α) (e:z=f w) (hk:K ((List.replicate n w).map f)):MkQ d n z K:=⟨by rw [e,←List.map_replicate];exact hk⟩
theorem Atp {m:Nat} (hf:X9 m f) (ws:List α):Sd m (ws.map f)=true:=by
 induction ws with
 | nil=>rfl
 | cons w r ih=>simp [Sd,(hf w).1,(hf w).2,ih]
theorem BslQ.o {d m:Nat} {us:List V} {K:List V→Prop} (f:α→V) (ws:List α) (hf:X9 m f) (e:us=ws.map f) (hk:K (ws.map f)):BslQ d m us K:=by
 subst e;exact ⟨Atp hf ws,hk⟩
theorem Ad9 {m:Nat} (hf:X9 m f) (ws:List α):Cj (Ay (ws.map f))=true:=by
 induction ws with
 | nil=>rfl
 | cons w r ih=>
   have:=(hf w).2
   simp only [Cj,List.map_cons,Ay,List.all_append,Bool.and_eq_true] at this ih ⊢
   exact ⟨this,ih⟩
theorem AppQ.o {m d:Nat} {us vs:List V} {K:List V→Prop} (f:α→V) (hf:X9 m f) (xs ys:List α) (ex:us=xs.map f) (ey:vs=ys.map f) (h:ask (xs.length+ys.length≤LIM) x=some v) (hk:x=some v→K ((xs++ys).map f)):AppQ d us vs K:=by
 subst ex;subst ey
 obtain ⟨h1,h2⟩:=Sh.1 h
 exact ⟨Ad9 hf ys,by simpa using h1,by rw [←List.map_append];exact hk h2⟩
theorem Qo (hf : ∀x,A4 (f x).cells=false) (ws:List α):A4 (Ay (ws.map f))=false:=by
 induction ws with
 | nil=>rfl
 | cons w r ih=>simp only [List.map_cons,Ay,F8,hf w,ih];rfl
theorem SlcQ.o {l h:Int} {xs:List α} {K:List V→Prop} (f:α→V) (hh:ask (0≤l∧l≤h∧h≤(xs.length:Int)) x=some v) (hk:x=some v→K (((xs.drop l.toNat).take (h.toNat-l.toNat)).map f)):SlcQ (xs.map f) l h K:=by
 obtain ⟨⟨h1,h2,h3⟩,h4⟩:=Sh.1 hh
 exact ⟨h1,h2,by simpa using h3,by rw [←List.map_drop,←List.map_take];exact hk h4⟩
theorem NoOwn.o (hf : ∀x,A4 (f x).cells=false) {ws:List α} (h:X):NoOwn (ws.map f) X Y:=⟨.inl ⟨Qo hf ws,h⟩⟩
theorem NoOwn.own {us:List V} (e:A4 (Ay us)=true) (h:Y):NoOwn us X Y:=⟨.inr ⟨e,h⟩⟩
end
def Se (P:Program) (f:Nat) (vs:List V) (v:V) (k:Nat) (u:V):Prop:=Tri P f vs (fun r o=>r=v∧o[k]? = some u)
theorem Q9 {P:Program} {f N:Nat} {ac:ACode} {rs:List RS} {args:List V} {v u:V} {k:Nat} (hf:A5 P f N ac rs=true) (hn:args.length≤N)
  (h:vc P ac (Ao9 N rs args fun r o=>r=v∧o[k]? = some u) (entry N 0 args)):Se P f args v k u:=Afp hf hn h
def Ag2 (P:Program) (f:Nat) (vs:List V) (v:V) (k1:Nat) (u1:V) (k2:Nat) (u2:V):Prop:=Tri P f vs (fun r o=>r=v∧o[k1]? = some u1∧o[k2]? = some u2)
theorem Ayl {P:Program} {f N:Nat} {ac:ACode} {rs:List RS} {args:List V} {v u1 u2:V} {k1 k2:Nat} (hf:A5 P f N ac rs=true) (hn:args.length≤N)
  (h:vc P ac (Ao9 N rs args fun r o=>r=v∧o[k1]? = some u1∧o[k2]? = some u2) (entry N 0 args)):Ag2 P f args v k1 u1 k2 u2:=Afp hf hn h
theorem RdL.drop {w:World} {O:Nat→Prop} : ∀(k:Nat) {os:List V} {us:List Value} {fp:List Nat},RdL w O os us fp → ∃fp',RdL w O (os.set k .dead) us fp'∧List.Sublist fp' fp
 | _,_,_,_,.nil=>⟨[],.nil,.slnil⟩
 | 0,_,_,_,.leaf _ t=>⟨_,.leaf (.dead _) t,.refl _⟩
 | 0,_,_,_,.grp _ _ t=>⟨_,.leaf (.dead _) t,List.sublist_append_right _ _⟩
 | 0,_,_,_,.fblk _ _ _ _ t=>⟨_,.leaf (.dead _) t,.refl _⟩
 | 0,_,_,_,.oblk _ _ _ _ _ t=>⟨_,.leaf (.dead _) t,(List.sublist_append_right _ _).cons _⟩
 | 0,_,_,_,.mpf _ _ _ t=>⟨_,.leaf (.dead _) t,.refl _⟩
 | 0,_,_,_,.mpo _ _ _ t=>⟨_,.leaf (.dead _) t,(List.Sublist.refl _).cons _⟩
 | k+1,_,_,_,.leaf h t=>let ⟨_,a,b⟩:=RdL.drop k t;⟨_,.leaf h a,b⟩
 | k+1,_,_,_,.grp h s t=>let ⟨_,a,b⟩:=RdL.drop k t;⟨_,.grp h s a,(List.Sublist.refl _).append b⟩
 | k+1,_,_,_,.fblk h hc hO s t=>let ⟨_,a,b⟩:=RdL.drop k t;⟨_,.fblk h hc hO s a,b⟩
 | k+1,_,_,_,.oblk h hb hO hk s t=>let ⟨_,a,b⟩:=RdL.drop k t;⟨_,.oblk h hb hO hk s a,((List.Sublist.refl _).append b).cons_cons _⟩
 | k+1,_,_,_,.mpf hb he hO t=>let ⟨_,a,b⟩:=RdL.drop k t;⟨_,.mpf hb he hO a,b⟩
 | k+1,_,_,_,.mpo hb he hO t=>let ⟨_,a,b⟩:=RdL.drop k t;⟨_,.mpo hb he hO a,b.cons_cons _⟩
theorem Tri.drop {P:Program} {f:Nat} {args:List V} {k:Nat} {R:V→List V→Prop} (h:Tri P f args fun r o=>R r (o.set k .dead)):Tri P f args R:=by
 intro w O vals fp h1 h2
 obtain ⟨h3,h4⟩:=h w O vals fp h1 h2
 refine ⟨h3,h4.mono ?_⟩
 rintro e w' ⟨res,outs,rv,O',fpr,fpo,hR,he,r1,ro,hnd,hm⟩
 obtain ⟨fp',a,b⟩:=RdL.drop k ro
 have hs:List.Sublist (fpr++fp') (fpr++fpo):=(List.Sublist.refl _).append b
 exact ⟨res,_,rv,O',fpr,fp',hR,he,r1,a,hs.nodup hnd,⟨hm.os,hm.tape,hm.output,hm.size,hm.same,fun b hb=>hm.new b (hs.subset hb)⟩⟩
theorem A2g {P:Program} {f N:Nat} {ac:ACode} {rs:List RS} {args:List V} {v:V} {k:Nat} (hf:A5 P f N ac rs=true) (hn:args.length≤N)
  (h:vc P ac (Ao9 N rs args fun r o=>r=v∧(o.set k .dead)[k]? = some .dead) (entry N 0 args)):Se P f args v k .dead:=Tri.drop (Afp hf hn h)
theorem Tri.freeze {P:Program} {f:Nat} {args:List V} {R:V→List V→Prop} (h:Tri P f args fun r o=>R r.fz o):Tri P f args R:=by
 intro w O vals fp h1 h2
 obtain ⟨h3,h4⟩:=h w O vals fp h1 h2
 refine ⟨h3,h4.mono ?_⟩
 rintro e w' ⟨res,outs,rv,O',fpr,fpo,hR,he,r1,ro,hnd,hm⟩
 have hd:=List.nodup_append.1 hnd
 have hnew : ∀b,b∈fpr→b∈fp∨w.heap.size≤b:=fun b hb=>hm.new b (by simp [hb])
 refine ⟨res.fz,outs,rv,fun b=>O' b∧b∉fpr,[],fpo,hR,he,?_,?_,by simpa using hd.2.1,⟨hm.os,hm.tape,hm.output,hm.size,fun b hb hS=> ?_,fun b hb=>hm.new b (by simpa using Or.inr (by simpa using hb))⟩⟩
 ·have:=r1.fz (O2:=fun b=>O' b∧b∉fpr) (fun b hb hh=>hh.2 hb) (fun b hb _ hh=>hb hh.1)
  simpa [fzL] using this
 ·exact ro.frame (fun b hb=>⟨rfl,(ro.fpO b hb).1,fun hh=>hd.2.2 b hh b hb rfl⟩) (fun b hb _=>⟨rfl,fun hh=>hb hh.1⟩)
 have:=hm.same b hb hS
 refine ⟨this.1,⟨fun hh=>this.2.1 hh.1,fun hh=>⟨this.2.2 hh,fun hf=> ?_⟩⟩⟩
 rcases hnew b hf with h5 | h5
 ·exact hS h5
 omega
theorem Akz {P:Program} {f N:Nat} {ac:ACode} {rs:List RS} {args:List V} {v:V} (hf:A5 P f N ac rs=true) (hn:args.length≤N)
  (h:vc P ac (Ao9 N rs args fun r _=>r.fz=v) (entry N 0 args)):Ret P f args v:=Tri.freeze (R:=fun r _=>r=v) (Afp hf hn h)
theorem Ans {P:Program} {f N:Nat} {ac:ACode} {rs:List RS} {args:List V} {v u:V} {k:Nat} (hf:A5 P f N ac rs=true) (hn:args.length≤N)
  (h:vc P ac (Ao9 N rs args fun r o=>r.fz=v∧o[k]? = some u) (entry N 0 args)):Se P f args v k u:=Tri.freeze (R:=fun r o=>r=v∧o[k]? = some u) (Afp hf hn h)
theorem Ret.frz {P:Program} {f:Nat} {vs:List V} {v v':V} (h:Ret P f vs v) (e:v.fz=v'):Ret P f vs v':=
 Tri.freeze (R:=fun r _=>r=v') (Tri.mono h fun r _ hr=>by rw [show r=v from hr];exact e)
theorem Se.frz {P:Program} {f k:Nat} {vs:List V} {v v' u:V} (h:Se P f vs v k u) (e:v.fz=v'):Se P f vs v' k u:=
 Tri.freeze (R:=fun r o=>r=v'∧o[k]? = some u) (Tri.mono h fun r _ hr=>⟨by rw [show r=v from hr.1];exact e,hr.2⟩)
class NoFz {α:Type} (f:α→V):Prop where
 eq : ∀x,(f x).noFz=true
instance {k:IntKind}:NoFz (V.int k):=⟨fun _=>rfl⟩
instance:NoFz Ae:=⟨fun _=>rfl⟩
instance:NoFz V.bool:=⟨fun _=>rfl⟩
instance:NoFz V.str:=⟨fun _=>rfl⟩
theorem Ch {α:Type} {f:α→V} [NoFz f] (xs:List α):Ce (xs.map f)=true:=by
 induction xs with
 | nil=>rfl
 | cons x r ih=>simp [Ce,NoFz.eq,ih]
instance {α:Type} (m:Nat) (f:α→V) [NoFz f]:NoFz (slr true m f):=⟨fun x=>by simp [V.noFz,Ch]⟩
instance {β:Type} (f:β→Lf):NoFz (rMp true f):=⟨fun x=>by simp [V.noFz]⟩
instance {β:Type} (f:β→Lf):NoFz (rMi true f):=⟨fun x=>by simp [V.noFz]⟩
instance {α:Type} (f:α→V) [NoFz f]:NoFz (rP true f):=⟨fun x=>by simp [V.noFz,NoFz.eq]⟩
instance {α:Type} (f:α→V) [NoFz f]:NoFz (rO true f):=⟨fun x=>by cases x<;>simp [V.noFz,NoFz.eq]⟩
instance {α:Type} (f:α→V) [NoFz f]:NoFz (rA2 f):=⟨fun x=>by simp [V.noFz,Ce,NoFz.eq]⟩
instance {α:Type} (f:α→V) [NoFz f]:NoFz (rA3 f):=⟨fun x=>by simp [V.noFz,Ce,NoFz.eq]⟩
section
variable {P:Program} {K:St→Prop} {σ:St} {β ρ:Type} {v:ρ} {oo:Option β} {k:β→Option ρ}
theorem CallQ.o (rep:β→V) {vs vs':List V} {f d:Nat} (e:vs=vs') (h:oo.bind k=some v) (hr : ∀r,oo=some r→Ret P f vs' (rep r)) (hk : ∀r,k r=some v→Bi (Ak d (.val (rep r)) σ) K):CallQ P f d vs [] [] K σ:=by
 subst e
 obtain ⟨r,h1,h2⟩:=Option.bind_eq_some_iff.1 h
 have h3:=hk r h2
 rw [Aq] at h3
 refine ⟨rfl,Tri.mono (hr r h1) ?_⟩
 rintro r o rfl
 exact ⟨rfl,h3⟩
theorem CallQ.rd (rep:β→V) {vs vs':List V} {rs:List Nat} {f d:Nat} (e:vs=vs') (hn : ∀r,(rep r).noFz=true) (h:oo.bind k=some v) (hr : ∀r,oo=some r→Ret P f vs' (rep r)) (hk : ∀r,k r=some v→Bi (Ak d (.val (rep r)) σ) K):CallQ P f d vs [] rs K σ:=by
 subst e
 obtain ⟨r,h1,h2⟩:=Option.bind_eq_some_iff.1 h
 have h3:=hk r h2
 rw [Aq] at h3
 refine ⟨rfl,Tri.mono (hr r h1) ?_⟩
 rintro r' o rfl
 exact ⟨by simp [Ea,hn r],h3⟩
theorem CallP.o (rep:β→V) {vs vs':List V} {f d:Nat} {K:V→Prop} (e:vs=vs') (h:oo.bind k=some v) (hr : ∀r,oo=some r→Ret P f vs' (rep r)) (hk : ∀r,k r=some v→K (rep r)):CallP P f d vs [] K:=by
 subst e
 obtain ⟨r,h1,h2⟩:=Option.bind_eq_some_iff.1 h
 exact ⟨_,Tri.mono (hr r h1) (by rintro r' _ rfl;exact ⟨rfl,rfl⟩),hk r h2⟩
theorem CallP.rd (rep:β→V) {vs vs':List V} {rs:List Nat} {f d:Nat} {K:V→Prop} (e:vs=vs') (hn : ∀r,(rep r).noFz=true) (h:oo.bind k=some v) (hr : ∀r,oo=some r→Ret P f vs' (rep r)) (hk : ∀r,k r=some v→K (rep r)):CallP P f d vs rs K:=by
 subst e
 obtain ⟨r,h1,h2⟩:=Option.bind_eq_some_iff.1 h
 exact ⟨_,Tri.mono (hr r h1) (by rintro r' _ rfl;exact ⟨rfl,by simp [Ea,hn r]⟩),hk r h2⟩
theorem FrzQ.d {T:V} {n:Nat} {K:V→Prop} (T':V) (e:T.fzAt n=T') (h:K T'):FrzQ T n K:=⟨_,e,h⟩
theorem LendP.io {γ:Type} {o:Option (β×γ)} {k:β×γ→Option ρ} (rep:β→V) (rep2:γ→V) {vs vs':List V} {rs:List Nat} {f d j:Nat} {T:V} {K:V→V→Prop} (e:vs=vs')
  (hn : ∀b,Ea rs (rep b)=true) (hn2 : ∀b,Ea rs (rep2 b)=true∧(rep2 b).node=true) (hu : ∀u,upd [] T u=some u) (h:o.bind k=some v) (hr : ∀x,o=some x→Se P f vs' (rep x.1) j (rep2 x.2))
  (hk : ∀b c,k (b,c)=some v→K (rep b) (rep2 c)):LendP P f d vs rs j [] T K:=by
 subst e
 obtain ⟨⟨b,c⟩,h1,h2⟩:=Option.bind_eq_some_iff.1 h
 exact ⟨_,_,_,hr _ h1,⟨hn b,(hn2 c).1,(hn2 c).2,hu _⟩,hk b c h2⟩
theorem CallQ.io {γ:Type} {o:Option (β×γ)} {k:β×γ→Option ρ} (rep:β→V) (rep2:γ→V) {vs vs':List V} {rs:List Nat} {f d j r:Nat} {p:List Nat} {T:V} (e:vs=vs') (hroots:rs.contains r=false)
  (hn : ∀b,Ea rs (rep b)=true) (hn2 : ∀b,Ea rs (rep2 b)=true∧(rep2 b).node=true) (hT:look σ r = .val T) (h:o.bind k=some v) (hr : ∀x,o=some x→Se P f vs' (rep x.1) j (rep2 x.2))
  (hk : ∀b c,k (b,c)=some v→Ei p T (rep2 c) fun T'=>Bi (Ak d (.val (rep b)) (Hq r T' (p.length+1) σ)) K):CallQ P f d vs [(j,r,p)] rs K σ:=by
 subst e
 obtain ⟨⟨b,c⟩,h1,h2⟩:=Option.bind_eq_some_iff.1 h
 obtain ⟨T',h3,h4⟩:=Bq (hk b c h2)
 rw [Aq] at h4
 refine ⟨by simp only [Jy,hroots];rfl,Tri.mono (hr _ h1) ?_⟩
 rintro res outs ⟨rfl,ho⟩
 refine ⟨hn b,?_⟩
 rw [ho,hT]
 exact ⟨(hn2 c).1,by rw [h3];show K (Ak d _ (Hq r T' (p.length+Mb (rep2 c)) σ));rw [Og (hn2 c).2];exact h4⟩
theorem CallQ.io2 {γ1 γ2:Type} {o:Option (β×γ1×γ2)} {k:β×γ1×γ2→Option ρ} (rep:β→V) (rep1:γ1→V) (rep2:γ2→V) {vs vs':List V} {rs:List Nat} {f d j1 j2 r1 r2:Nat} {p1 p2:List Nat} {T1 T2:V} (e:vs=vs')
  (hroots:Jy σ [(j1,r1,p1),(j2,r2,p2)] rs=true) (hne:Nat.beq r1 r2=false)
  (hn : ∀b,Ea rs (rep b)=true) (hn1 : ∀b,Ea rs (rep1 b)=true∧(rep1 b).node=true) (hn2 : ∀b,Ea rs (rep2 b)=true∧(rep2 b).node=true) (hT1:look σ r1 = .val T1) (hT2:look σ r2 = .val T2)
  (h:o.bind k=some v) (hr : ∀x,o=some x→Ag2 P f vs' (rep x.1) j1 (rep1 x.2.1) j2 (rep2 x.2.2))
  (hk : ∀b c1 c2,k (b,c1,c2)=some v→Ei p1 T1 (rep1 c1) fun T1'=>Ei p2 T2 (rep2 c2) fun T2'=>Bi (Ak d (.val (rep b)) (Hq r2 T2' (p2.length+1) (Hq r1 T1' (p1.length+1) σ))) K) :
  CallQ P f d vs [(j1,r1,p1),(j2,r2,p2)] rs K σ:=by
 subst e
 obtain ⟨⟨b,c1,c2⟩,h1,h2⟩:=Option.bind_eq_some_iff.1 h
 obtain ⟨T1',h3,h4⟩:=Bq (hk b c1 c2 h2)
 obtain ⟨T2',h5,h6⟩:=Bq h4
 rw [Aq] at h6
 refine ⟨hroots,Tri.mono (hr _ h1) ?_⟩
 rintro res outs ⟨rfl,ho1,ho2⟩
 refine ⟨hn b,?_⟩
 rw [ho1,ho2]
 refine ⟨by simp only [(hn1 c1).1,(hn2 c2).1,Bool.and_self],?_⟩
 simp only [Ank,hne,hT1,hT2,h3,h5,Og (hn1 c1).2,Og (hn2 c2).2]
 exact h6
theorem CallQ.give (rep:β→V) {vs vs':List V} {rs:List Nat} {f d j r:Nat} {p:List Nat} {T:V} (e:vs=vs') (hroots:rs.contains r=false)
  (hn : ∀b,Ea rs (rep b)=true) (hT:look σ r = .val T) (h:oo.bind k=some v) (hr : ∀x,oo=some x→Se P f vs' (rep x) j .dead)
  (hk : ∀b,k b=some v→Ei p T .dead fun T'=>Bi (Ak d (.val (rep b)) (Hq r T' p.length σ)) K):CallQ P f d vs [(j,r,p)] rs K σ:=by
 subst e
 obtain ⟨b,h1,h2⟩:=Option.bind_eq_some_iff.1 h
 obtain ⟨T',h3,h4⟩:=Bq (hk b h2)
 rw [Aq] at h4
 refine ⟨by simp only [Jy,hroots];rfl,Tri.mono (hr _ h1) ?_⟩
 rintro res outs ⟨rfl,ho⟩
 refine ⟨hn b,?_⟩
 rw [ho,hT]
 exact ⟨by cases rs<;>rfl,by rw [h3];exact h4⟩
instance inhSum {α δ:Type} [Inhabited α]:Inhabited (α ⊕ δ):=⟨.inl default⟩
end
abbrev Tgt:=Ex×List Nat×St
def atQ (t:Tgt):Ex→St→Prop:=fun ex σ=>ex=t.1∧restrict t.2.1 σ=t.2.2
def Co {σ' τ:Type} (ks:List Nat) (st:σ'→St) (tg:τ→Tgt):σ' ⊕ τ→Ex→St→Prop
 | .inl s=>atQ (.normal,ks,st s)
 | .inr t=>atQ (tg t)
def Ex.isNormal:Ex→Bool
 | .normal=>true
 | .exit _=>false
 | .ret=>false
theorem LoopQ.o {σ' τ ρ:Type} {body:σ'→Option (σ' ⊕ τ)} {k:τ→Option ρ} {v:ρ} {s0:σ'} {P:Program} {c:ACode} {Q:Ex→St→Prop} {σ:St} (ks:List Nat) (st:σ'→St) (tg:τ→Tgt)
  (h:(Am body s0).bind k=some v) (hb : ∀s o,body s=some o→vc P c (Co ks st tg o) (st s)) (h0:restrict ks σ=st s0) (hn : ∀t,(tg t).1.isNormal=false) (ha : ∀t,k t=some v→Q (tg t).1 (tg t).2.2) :
  LoopQ P c Q σ:=by
 obtain ⟨t,h1,h2⟩:=Option.bind_eq_some_iff.1 h
 obtain ⟨n,hit⟩:=O5.1 h1
 refine ⟨ks,n,?_⟩
 rw [h0]
 clear h0 h h1
 induction n generalizing s0 with
 | zero=>cases hit
 | succ n ih=>
   simp only [Aht] at hit
   split at hit
   ·cases hit
   ·rename_i s' e
    refine Sl ?_ (Y3 (hb _ _ e))
    rintro ex τ' ⟨h3,h4⟩
    subst h3
    show Aau (awp P c) ks (less Q) n (restrict ks τ')
    rw [h4]
    exact ih hit
   ·rename_i t' e
    cases hit
    refine Sl ?_ (Y3 (hb _ _ e))
    rintro ex τ' ⟨h3,h4⟩
    have hne:=hn t
    rw [←h3] at hne
    have hq:=ha t h2
    rw [←h4,←h3] at hq
    cases ex with
    | normal=>cases hne
    | exit i=>exact .inr ⟨_,hq⟩
    | ret=>exact .inr ⟨_,hq⟩
theorem CutQ.o {τ ρ:Type} {e:Option τ} {k:τ→Option ρ} {v:ρ} {P:Program} {c:ACode} {Q:Ex→St→Prop} {σ:St} (tg:τ→Tgt)
  (h:e.bind k=some v) (hb : ∀t,e=some t→vc P c (atQ (tg t)) σ) (ha : ∀t,k t=some v→Q (tg t).1 (tg t).2.2):CutQ P c Q σ:=by
 obtain ⟨t,h1,h2⟩:=Option.bind_eq_some_iff.1 h
 refine ⟨?_⟩
 show awp P c (less Q) σ
 refine Sl ?_ (Y3 (hb t h1))
 rintro ex τ' ⟨h3,h4⟩
 have hq:=ha t h2
 rw [←h4,←h3] at hq
 exact .inr ⟨_,hq⟩
abbrev rDd (_:Unit):V:= .dead
instance:NoFz rDd:=⟨fun _=>rfl⟩
end Go.Proofs.Ytmmcfdfdacpjgaa.Ax
