/-
 Part of the proof; see the last text of the claim.
-/
import Derived.Test.YtbnoclklhcbidaaDoorAx3
namespace Go.Proofs.YtbnoclklhcbidaaDoor.Ax
open Go
structure Br (b:Bool) (X Y:Prop):Prop where
 t:b=true→X
 f:b=false→Y
structure Ask (p X:Prop):Prop where
 p:p
 x:X
structure Elem (xs:List V) (j:Nat) (K:V→Prop):Prop where
 h:K (xs.getD j .dead)
structure Cells (xs:List V) (c n:Nat) (K:List V→Prop):Prop where
 h : ∃us,c+n≤xs.length∧(xs.drop c).take n=us∧K us
structure Kid (T:V) (c:Nat) (K:V→Prop):Prop where
 h : ∃k,T.stepOk=true∧T.kids[c]? = some k∧K k
structure SetKids (x:V) (c:Nat) (us:List V) (K:V→Prop):Prop where
 h : ∃x',x.setKids c us=some x'∧K x'
structure MkQ (d n:Nat) (z:V) (K:List V→Prop):Prop where
 h:K (List.replicate n z)
structure BslQ (d m:Nat) (us:List V) (K:List V→Prop):Prop where
 h:L9 m us=true∧K us
structure AppQ (d:Nat) (xs ys:List V) (K:List V→Prop):Prop where
 h:Cw (Bo ys)=true∧xs.length+ys.length≤LIM∧K (xs++ys)
structure NoOwn (ys:List V) (X Y:Prop):Prop where
 h:(Ba (Bo ys)=false∧X)∨(Ba (Bo ys)=true∧Y)
structure SlcQ (xs:List V) (l h:Int) (K:List V→Prop):Prop where
 h:0≤l∧l≤h∧h≤(xs.length:Int)∧K ((xs.drop l.toNat).take (h.toNat-l.toNat))
structure Idx (j:Int) (lo n:Nat) (K:Int→Prop):Prop where
 h:lo≤j→j<n→K j
def A8:Nat→Nat→Nat
 | x,0=>x*0
 | x,1=>x
 | x,m+2=>x*(m+2)
theorem Aa (x:Nat):A8 x 1=x:=rfl
theorem Of (x m:Nat):A8 x m=x*m:=by
 unfold A8;split<;>simp
def Avw (a b:Int):Int:=IntKind.i64.wrap (a*2^(min b.toNat IntKind.i64.bits))
def Awp (a b:Int):Int:=a.fdiv (2^(min b.toNat IntKind.i64.bits))
def Aw2 (a b:Int):Int:=IntKind.i64.wrap (BitVec.ofInt IntKind.i64.bits a &&& BitVec.ofInt IntKind.i64.bits b).toNat
def orI (a b:Int):Int:=IntKind.i64.wrap (BitVec.ofInt IntKind.i64.bits a ||| BitVec.ofInt IntKind.i64.bits b).toNat
def Axf (a b:Int):Int:=IntKind.i64.wrap (BitVec.ofInt IntKind.i64.bits a ^^^ BitVec.ofInt IntKind.i64.bits b).toNat
def Atb (a b:Int):Int:=IntKind.i64.wrap (BitVec.ofInt IntKind.i64.bits a &&& ~~~BitVec.ofInt IntKind.i64.bits b).toNat
theorem Br.not {b:Bool} {X Y:Prop} (h:Br b Y X):Br (!b) X Y:=by
 cases b
 ·exact ⟨fun _=>h.f rfl,fun e=>Bool.noConfusion e⟩
 exact ⟨fun e=>Bool.noConfusion e,fun _=>h.t rfl⟩
theorem Br.beq {a b:Int} {X Y:Prop} (h1:a=b→X) (h2:a≠b→Y):Br (a==b) X Y:=⟨fun h=>h1 (by simpa using h),fun h=>h2 (by simpa using h)⟩
structure Len (xs:List V) (K:Nat→Prop):Prop where
 h:K xs.length
theorem Len.map {α:Type} {f:α→V} {xs:List α} {K:Nat→Prop} (h:K xs.length):Len (xs.map f) K:=⟨by rw [List.length_map];exact h⟩
theorem Len.app {xs ys:List V} {K:Nat→Prop} (h:K (xs.length+ys.length)):Len (xs++ys) K:=⟨by rw [List.length_append];exact h⟩
theorem Br.yes {X Y:Prop} (h:X):Br true X Y:=⟨fun _=>h,fun e=>Bool.noConfusion e⟩
theorem Br.no {X Y:Prop} (h:Y):Br false X Y:=⟨fun e=>Bool.noConfusion e,fun _=>h⟩
mutual
def K3:A→(A→Prop)→Prop
 | .top,K=>K .top
 | .val v,K=>K (.val v)
 | .ref r p,K=>K (.ref r p)
 | .addr r p c,K=>K (.addr r p c)
 | .fad cs,K=>K (.fad cs)
 | .agg as,K=>Wy as fun bs=>K (.agg bs)
 | .clo f as,K=>Wy as fun bs=>K (.clo f bs)
 | .tie b f p q,K=>Wy p fun ps=>Wy q fun qs=>K (.tie b f ps qs)
def Wy:List A→(List A→Prop)→Prop
 | [],K=>K []
 | a::r,K=>K3 a fun b=>Wy r fun s=>K (b::s)
end
mutual
theorem Ky:(a:A)→(K:A→Prop)→K3 a K=K a
 | .top,_=>rfl
 | .val _,_=>rfl
 | .ref _ _,_=>rfl
 | .addr _ _ _,_=>rfl
 | .fad _,_=>rfl
 | .agg as,K=>by simp only [K3];rw [Pt as]
 | .clo f as,K=>by simp only [K3];rw [Pt as]
 | .tie b f p q,K=>by simp only [K3];rw [Pt p,Pt q]
theorem Pt:(as:List A)→(K:List A→Prop)→Wy as K=K as
 | [],_=>rfl
 | a::r,K=>by simp only [Wy];rw [Ky a,Pt r]
end
def Bq:St→(St→Prop)→Prop
 | [],K=>K []
 | (k,a)::r,K=>K3 a fun b=>Bq r fun s=>K ((k,b)::s)
theorem Az : ∀(σ:St) (K:St→Prop),Bq σ K=K σ:=by
 intro σ
 induction σ with
 | nil=>intro K;rfl
 | cons e r ih=>intro K;obtain ⟨k,a⟩:=e;simp only [Bq];rw [Ky,ih]
def Ac0 (o:Option St) (K:St→Prop):Prop:=match o with
 | some σ=>Bq σ K
 | none=>False
theorem Te {o:Option St} {K:St→Prop} (h:Ac0 o K) : ∃σ,o=some σ∧K σ:=by
 unfold Ac0 at h
 split at h
 ·rw [Az] at h;exact ⟨_,rfl,h⟩
 exact h.elim
def Kd (s:Nat) (b:Bool):St→St
 | []=>[]
 | (k,a)::r=>match Nat.beq k s with
   | true=>(k,.val (.bool b))::r
   | false=>(k,a)::Kd s b r
theorem M8 {s:Nat} {b:Bool} : ∀ {σ:St},look σ s = .val (.bool b)→Kd s b σ=σ:=by
 intro σ
 induction σ with
 | nil=>intro _;rfl
 | cons e r ih=>
   obtain ⟨k,a⟩:=e
   intro h
   simp only [look] at h
   simp only [Kd]
   by_cases hk:k=s
   ·rw [if_pos hk] at h
    subst hk
    rw [show Nat.beq k k=true by simp,h]
   ·rw [if_neg hk] at h
    rw [show Nat.beq k s=false by
     cases hb:Nat.beq k s with
     | false=>rfl
     | true=>exact absurd (Nat.eq_of_beq_eq_true hb) hk]
    simp only [ih h]
def Aw1 (x:X) (b:Bool) (σ:St):St:=match x with
 | .t s=>Kd s b σ
 | .c _=>σ
def Aaz:List Nat→V→(V→Prop)→Prop
 | [],T,K=>K T
 | c::p,T,K=>Kid T c fun k=>Aaz p k K
theorem K8 : ∀ {p:List Nat} {T:V} {K:V→Prop},Aaz p T K → ∃u,sub p T=some u∧K u:=by
 intro p
 induction p with
 | nil=>intro T K h;exact ⟨T,rfl,h⟩
 | cons c p ih=>
   intro T K h
   obtain ⟨k,h1,h2,h3⟩:=h.h
   obtain ⟨u,h4,h5⟩:=ih h3
   exact ⟨u,by simp only [sub,h1,h2,if_true,h4],h5⟩
def Qh (T:A) (p:List Nat) (K:V→Prop):Prop:=match T with
 | .val V=>Aaz p V K
 | _=>False
def J7:List Nat→V→V→(V→Prop)→Prop
 | [],_,u,K=>K u
 | c::p,T,u,K=>Kid T c fun k=>J7 p k u fun k'=>SetKids T c [k'] K
theorem Et : ∀ {p:List Nat} {T u:V} {K:V→Prop},J7 p T u K → ∃T',upd p T u=some T'∧K T':=by
 intro p
 induction p with
 | nil=>intro T u K h;exact ⟨u,rfl,h⟩
 | cons c p ih=>
   intro T u K h
   obtain ⟨k,h1,h2,h3⟩:=h.h
   obtain ⟨k',h4,h5⟩:=ih h3
   obtain ⟨T',h6,h7⟩:=h5.h
   exact ⟨T',by simp only [upd,h2,h4,h6],h7⟩
theorem E7 {σ:St} {r:Nat} {p:List Nat} {K:V→Prop} (h:Qh (look σ r) p K) : ∃T u,look σ r = .val T∧sub p T=some u∧Bl σ r p=some u∧K u:=by
 unfold Qh at h
 split at h
 ·rename_i T hT
  obtain ⟨u,h1,h2⟩:=K8 h
  exact ⟨T,u,hT,h1,by simp [Bl,hT,h1],h2⟩
 exact h.elim
def Zb (a b:A) (K:Int→Int→Prop) (E:Prop):Prop:=match a,b with
 | .val (.int .i64 x),.val (.int .i64 y)=>K x y
 | _,_=>E
abbrev InI (n:Int):Prop:= -9223372036854775808≤n∧n≤9223372036854775807
theorem Ag3 {a b:A} {K:Int→Int→Prop} {E:Prop} (h:Zb a b K E):(∃x y,a = .val (.int .i64 x)∧b = .val (.int .i64 y)∧K x y)∨E:=by
 unfold Zb at h
 split at h
 ·exact .inl ⟨_,_,rfl,rfl,h⟩
 exact .inr h
def Av7 (a b:A) (K:ByteArray→ByteArray→Prop) (E:Prop):Prop:=match a,b with
 | .val (.str x),.val (.str y)=>K x y
 | _,_=>E
theorem Aqt {a b:A} {K:ByteArray→ByteArray→Prop} {E:Prop} (h:Av7 a b K E):(∃x y,a = .val (.str x)∧b = .val (.str y)∧K x y)∨E:=by
 unfold Av7 at h
 split at h
 ·exact .inl ⟨_,_,rfl,rfl,h⟩
 exact .inr h
def Gv (o:Option (Nat×A)) (K:Nat→A→Prop):Prop:=match o with
 | some (d,a)=>K3 a fun b=>K d b
 | none=>False
theorem Gi {o:Option (Nat×A)} {K:Nat→A→Prop} (h:Gv o K) : ∃d a,o=some (d,a)∧K d a:=by
 unfold Gv at h
 split at h
 ·rw [Ky] at h;exact ⟨_,_,rfl,h⟩
 exact h.elim
def Ax0 (d:Nat) (xs:List V) (K:Nat→A→Prop):Prop:=Len xs fun n=>K d (.val (.int .i64 n))
def Aus (d m m':Nat) (xs:List V) (j:Int) (own:Option (Nat×List Nat)) (K:Nat→A→Prop):Prop:=match Nat.beq m' m with
 | true=>Len xs fun n=>Ask (0≤j∧j<n) (match own with
   | none=>Elem xs j.toNat fun u=>K d (.fad u.cells)
   | some (r,p)=>K d (.addr r p (A8 j.toNat m)))
 | false=>False
structure LkQ {κ:Type} [DecidableEq κ] (es:List (κ×Lf)) (s:κ) (z:Lf) (ok:Bool) (K:V→Prop):Prop where
 h:K (Aly es s z ok)
structure MsQ {κ:Type} [DecidableEq κ] (es:List (κ×Lf)) (s:κ) (x:Lf) (K:List (κ×Lf)→Prop):Prop where
 h:K (G8 es s x)
structure LnQ {κ:Type} (es:List (κ×Lf)) (K:Nat→Prop):Prop where
 h:K es.length
def lkK (kd:Bool) (es:Es) (u:V) (z:Lf) (ok:Bool) (K:V→Prop):Prop:=match kd,es,u with
 | false,.s es,.str s=>LkQ es s z ok K
 | true,.i es,.int .i64 n=>LkQ es n z ok K
 | _,_,_=>False
theorem Akl {kd es u z ok} {K:V→Prop} (h:lkK kd es u z ok K) : ∃v,At6 kd es u z ok=some v∧K v:=by
 unfold lkK at h
 split at h
 ·exact ⟨_,rfl,h.h⟩
 ·exact ⟨_,rfl,h.h⟩
 exact h.elim
def msK (kd:Bool) (es:Es) (u:V) (x:Lf) (K:Es→Prop):Prop:=match kd,es,u with
 | false,.s es,.str s=>MsQ es s x fun l=>K (.s l)
 | true,.i es,.int .i64 n=>MsQ es n x fun l=>K (.i l)
 | _,_,_=>False
theorem Asv {kd es u x} {K:Es→Prop} (h:msK kd es u x K) : ∃es',Aw0 kd es u x=some es'∧K es':=by
 unfold msK at h
 split at h
 ·exact ⟨_,rfl,h.h⟩
 ·exact ⟨_,rfl,h.h⟩
 exact h.elim
def lnK (es:Es) (K:Nat→Prop):Prop:=match es with
 | .s l=>LnQ l K
 | .i l=>LnQ l K
theorem Alw {es:Es} {K:Nat→Prop} (h:lnK es K):K es.len:=by cases es<;>exact h.h
structure BsQ (xs:List V) (K:ByteArray→Prop):Prop where
 h : ∃ns,L4 xs=some ns∧K (Ady ns)
def Apo (d m:Nat) (xs:List V) (K:Nat→A→Prop):Prop:=match Nat.beq m 1 with
 | true=>BsQ xs fun s=>K d (.val (.str s))
 | false=>False
structure FrzQ (T:V) (n:Nat) (K:V→Prop):Prop where
 h : ∃T',T.fzAt n=T'∧K T'
def Aba (o:AOp) (σ:St) (K:Nat→A→Prop):Prop:=match o with
 | .mlk d x k z ok kd=>match Ai σ x,Ai σ k with
   | .val (.mp o es),.val u=>(match o with
     | false=>lkK kd es u z ok fun v=>K d (.val v)
     | true=>False)
   | .ref r p,.val u=>Qh (look σ r) p fun n=>match n with
     | .mp _ es=>lkK kd es u z ok fun v=>K d (.val v)
     | _=>False
   | _,_=>False
 | .mln d x=>match Ai σ x with
   | .val (.mp o es)=>(match o with
     | false=>lnK es fun n=>K d (.val (.int .i64 n))
     | true=>False)
   | .ref r p=>Qh (look σ r) p fun n=>match n with
     | .mp _ es=>lnK es fun n=>K d (.val (.int .i64 n))
     | _=>False
   | _=>False
 | .bstr d x=>match Ai σ x with
   | .val (.sl o m xs)=>(match o with
     | false=>Apo d m xs K
     | true=>False)
   | .ref r p=>Qh (look σ r) p fun u=>match u with
     | .sl _ m xs=>Apo d m xs K
     | _=>False
   | _=>False
 | .bin d op x y=>match op with
   | .add=>Av7 (Ai σ x) (Ai σ y) (fun s t=>Ask (s.size+t.size≤9223372036854775807) (K d (.val (.str (s++t))))) (Zb (Ai σ x) (Ai σ y) (fun a b=>Ask (InI (a+b)) (K d (.val (.int .i64 (a+b))))) (Gv (qR o σ) K))
   | .sub=>Zb (Ai σ x) (Ai σ y) (fun a b=>Ask (InI (a-b)) (K d (.val (.int .i64 (a-b))))) (Gv (qR o σ) K)
   | .mul=>Zb (Ai σ x) (Ai σ y) (fun a b=>Ask (InI (a*b)) (K d (.val (.int .i64 (a*b))))) (Gv (qR o σ) K)
   | .quo=>Zb (Ai σ x) (Ai σ y) (fun a b=>Ask (b≠0∧InI (a.tdiv b)) (K d (.val (.int .i64 (a.tdiv b))))) (Gv (qR o σ) K)
   | .rem=>Zb (Ai σ x) (Ai σ y) (fun a b=>Ask (b≠0) (K d (.val (.int .i64 (a.tmod b))))) (Gv (qR o σ) K)
   | .shl=>Zb (Ai σ x) (Ai σ y) (fun a b=>Ask (0≤b) (K d (.val (.int .i64 (Avw a b))))) (Gv (qR o σ) K)
   | .shr=>Zb (Ai σ x) (Ai σ y) (fun a b=>Ask (0≤b) (K d (.val (.int .i64 (Awp a b))))) (Gv (qR o σ) K)
   | .and=>Zb (Ai σ x) (Ai σ y) (fun a b=>K d (.val (.int .i64 (Aw2 a b)))) (Gv (qR o σ) K)
   | .or=>Zb (Ai σ x) (Ai σ y) (fun a b=>K d (.val (.int .i64 (orI a b)))) (Gv (qR o σ) K)
   | .xor=>Zb (Ai σ x) (Ai σ y) (fun a b=>K d (.val (.int .i64 (Axf a b)))) (Gv (qR o σ) K)
   | .andNot=>Zb (Ai σ x) (Ai σ y) (fun a b=>K d (.val (.int .i64 (Atb a b)))) (Gv (qR o σ) K)
   | _=>Gv (qR o σ) K
 | .pick d c x y=>match Ai σ c with
   | .val (.bool b)=>Br b (Gv ((nt (Ai σ x)).map (d,·)) K) (Gv ((nt (Ai σ y)).map (d,·)) K)
   | _=>False
 | .iad d m x i=>match Ai σ x,Ai σ i with
   | .val (.sl _ m' xs),.val (.int _ j)=>Aus d m m' xs j none K
   | .ref r p,.val (.int _ j)=>Qh (look σ r) p fun u=>match u with
     | .sl o m' xs=>match o with
       | true=>Aus d m m' xs j (some (r,p)) K
       | false=>False
     | _=>False
   | _,_=>False
 | .aad d m n x i=>match Ez σ (Ai σ x),Ai σ i with
   | some l,.val (.int _ j)=>Ask (0≤j∧j<n) (Idx j 0 n fun j=>K3 (Z5 (A8 j.toNat m) l) fun b=>K d b)
   | _,_=>False
 | .ld d n ag x=>match Ez σ (Ai σ x) with
   | some (.own r p c)=>Qh (look σ r) p fun u=>Cells u.kids c n fun ks=>K3 (mkA ag (Fg r p c ks)) fun b=>K d b
   | _=>Gv (qR o σ) K
 | .mk d m z x=>match Ai σ x with
   | .val (.int _ n)=>Ask (0≤n∧n≤(LIM:Int)) (MkQ d n.toNat z.up fun l=>K d (.val (.sl true m l)))
   | _=>False
 | .mkc d m _ x=>match Ai σ x with
   | .val (.int _ n)=>Ask (0≤n∧n≤(LIM:Int)) (K d (.val (.sl true m [])))
   | _=>False
 | .bsl d m ps=>match G6 (ps.map (Ai σ)) with
   | some Us=>BslQ d m (upL Us) fun l=>K d (.val (.sl true m l))
   | none=>False
 | .mkr d m z x=>match Ai σ x with
   | .val (.int _ n)=>Ask (0≤n∧n≤(LIM:Int)) (MkQ d n.toNat z.up fun l=>FrzQ (.sl true m l) 0 fun T'=>K d (.val T'))
   | _=>False
 | .bslr d m ps=>match G6 (ps.map (Ai σ)) with
   | some Us=>BslQ d m (upL Us) fun l=>FrzQ (.sl true m l) 0 fun T'=>K d (.val T')
   | none=>False
 | .slc d m x lo hi=>match Ai σ x with
   | .val (.ptr o (.agg cs))=>(match o with
     | true=>False
     | false=>(match Al3 m cs (lo.map (Ai σ)) (hi.map (Ai σ)) with
       | true=>K d (.val (.sl false 1 cs))
       | false=>False))
   | .val (.sl o m' xs)=>(match o with
     | true=>False
     | false=>(match Nat.beq m' m with
       | true=>(match K1 0 (lo.map (Ai σ)) with
         | some l=>(match hi with
           | none=>Len xs fun n=>SlcQ xs l n fun ys=>K d (.val (.sl false m ys))
           | some y=>(match Aes (Ai σ y) with
             | some h=>SlcQ xs l h fun ys=>K d (.val (.sl false m ys))
             | none=>False))
         | none=>False)
       | false=>False))
   | _=>False
 | .len d x=>match Ai σ x with
   | .val (.sl _ _ xs)=>Ax0 d xs K
   | .ref r p=>Qh (look σ r) p fun u=>match u with
     | .sl _ _ xs=>Ax0 d xs K
     | _=>False
   | _=>Gv (qR o σ) K
 | .sidx d x i=>(match Ai σ x,Ai σ i with
   | .val (.str s),.val (.int _ j)=>Ask (0≤j∧j<(s.size:Int)) (K d (.val (.int .u8 (Cz s j))))
   | _,_=>False)
 | .ssl d x lo hi=>(match Ai σ x with
   | .val (.str s)=>(match K1 0 (lo.map (Ai σ)) with
     | some l=>(match K1 s.size (hi.map (Ai σ)) with
       | some h=>Ask (0≤l∧l≤h∧h≤(s.size:Int)) (K d (.val (.str (s.extract l.toNat h.toNat))))
       | none=>False)
     | none=>False)
   | _=>False)
 | o=>Gv (qR o σ) K
theorem Ag2 {d m m':Nat} {xs:List V} {j:Int} {own:Option (Nat×List Nat)} {K:Nat→A→Prop} (h:Aus d m m' xs j own K):m'=m∧0≤j∧j<xs.length∧(match own with
  | none=>K d (.fad (xs.getD j.toNat .dead).cells)
  | some (r,p)=>K d (.addr r p (j.toNat*m))):=by
 unfold Aus at h
 split at h
 ·rename_i hm
  have h1:=h.h
  refine ⟨Nat.eq_of_beq_eq_true hm,h1.p.1,h1.p.2,?_⟩
  cases own with
  | none=>exact h1.x.h
  | some e=>have:=h1.x;simpa [Of] using this
 exact h.elim
theorem Aen {d m:Nat} {xs:List V} {K:Nat→A→Prop} (h:Apo d m xs K) : ∃ns,m=1∧L4 xs=some ns∧K d (.val (.str (Ady ns))):=by
 unfold Apo at h
 split at h
 ·rename_i hm
  obtain ⟨ns,h1,h2⟩:=h.h
  exact ⟨ns,Nat.eq_of_beq_eq_true hm,h1,h2⟩
 exact h.elim
theorem Oi {o:AOp} {σ:St} {K:Nat→A→Prop} (h:Aba o σ K) : ∃d a,qR o σ=some (d,a)∧K d a:=by
 unfold Aba at h
 split at h
 ·rename_i d x k z ok kd
  split at h
  ·rename_i o es s hx hk
   split at h
   ·obtain ⟨v,h1,h2⟩:=Akl h
    exact ⟨_,_,by simp [qR,hx,hk,mpA,Da,h1],h2⟩
   exact h.elim
  ·rename_i r p s hx hk
   obtain ⟨T,u,hT,hs,hn,hq⟩:=E7 h
   split at hq
   ·obtain ⟨v,h1,h2⟩:=Akl hq
    exact ⟨_,_,by simp [qR,hx,hk,mpA,hn,Da,h1],h2⟩
   exact hq.elim
  exact h.elim
 ·rename_i d x
  split at h
  ·rename_i o es hx
   split at h
   ·exact ⟨_,_,by simp [qR,hx,mpA],Alw h⟩
   exact h.elim
  ·rename_i r p hx
   obtain ⟨T,u,hT,hs,hn,hq⟩:=E7 h
   split at hq
   ·exact ⟨_,_,by simp [qR,hx,mpA,hn],Alw hq⟩
   exact hq.elim
  exact h.elim
 ·rename_i d x
  split at h
  ·rename_i o m xs hx
   split at h
   ·obtain ⟨ns,h1,h2,h3⟩:=Aen h
    subst h1
    exact ⟨_,_,by simp [qR,hx,slA,h2],h3⟩
   exact h.elim
  ·rename_i r p hx
   obtain ⟨T,u,hT,hs,hn,hq⟩:=E7 h
   split at hq
   ·obtain ⟨ns,h1,h2,h3⟩:=Aen hq
    subst h1
    exact ⟨_,_,by simp [qR,hx,slA,hn,h2],h3⟩
   exact hq.elim
  exact h.elim
 ·rename_i d op x y
  split at h
  case h_12=>exact Gi h
  case h_1=>
   rcases Aqt h with ⟨s,t,ha,hb,hk⟩ | h
   ·exact ⟨_,_,by simp [qR,ha,hb,Da,V.isBool,Ny,hk.p],hk.x⟩
   rcases Ag3 h with ⟨a,b,ha,hb,hk⟩ | h
   ·exact ⟨_,_,by simp [qR,ha,hb,Da,V.isBool,Ny,My hk.p.1 hk.p.2],hk.x⟩
   ·exact Gi h
  all_goals
   rcases Ag3 h with ⟨a,b,ha,hb,hk⟩ | h
   case inr=>exact Gi h
  ·exact ⟨_,_,by simp [qR,ha,hb,Da,V.isBool,Ny,My hk.p.1 hk.p.2],hk.x⟩
  ·exact ⟨_,_,by simp [qR,ha,hb,Da,V.isBool,Ny,My hk.p.1 hk.p.2],hk.x⟩
  ·exact ⟨_,_,by simp [qR,ha,hb,Da,V.isBool,Ny,hk.p.1,My hk.p.2.1 hk.p.2.2],hk.x⟩
  ·exact ⟨_,_,by simp [qR,ha,hb,Da,V.isBool,Ny,hk.p],hk.x⟩
  ·exact ⟨d,.val (.int .i64 (Avw a b)),by simp [qR,ha,hb,Da,V.isBool,Ny,Int.not_lt.2 hk.p,Avw],hk.x⟩
  ·exact ⟨d,.val (.int .i64 (Awp a b)),by simp [qR,ha,hb,Da,V.isBool,Ny,Int.not_lt.2 hk.p,Awp],hk.x⟩
  ·exact ⟨d,.val (.int .i64 (Aw2 a b)),by simp [qR,ha,hb,Da,V.isBool,Ny,Aw2],hk⟩
  ·exact ⟨d,.val (.int .i64 (orI a b)),by simp [qR,ha,hb,Da,V.isBool,Ny,orI],hk⟩
  ·exact ⟨d,.val (.int .i64 (Axf a b)),by simp [qR,ha,hb,Da,V.isBool,Ny,Axf],hk⟩
  exact ⟨d,.val (.int .i64 (Atb a b)),by simp [qR,ha,hb,Da,V.isBool,Ny,Atb],hk⟩
 ·rename_i d c x y
  split at h
  ·rename_i b hb
   cases b
   ·obtain ⟨d',a,h1,h2⟩:=Gi (h.f rfl)
    exact ⟨d',a,by simp only [qR,hb];simpa using h1,h2⟩
   obtain ⟨d',a,h1,h2⟩:=Gi (h.t rfl)
   exact ⟨d',a,by simp only [qR,hb];simpa using h1,h2⟩
  exact h.elim
 ·rename_i d m x i
  split at h
  ·rename_i hx hi
   obtain ⟨h1,h2,h3,h4⟩:=Ag2 h
   subst h1
   exact ⟨_,_,by simp only [qR,hx,hi,h2,h3,and_self,if_true],h4⟩
  ·rename_i hx hi
   obtain ⟨T,u,hT,hs,hn,hk⟩:=E7 h
   split at hk
   case h_2=>exact hk.elim
   split at hk
   case h_2=>exact hk.elim
   obtain ⟨h1,h2,h3,h4⟩:=Ag2 hk
   subst h1
   exact ⟨_,_,by simp only [qR,hx,hi,hn,h2,h3,and_self,if_true],h4⟩
  exact h.elim
 ·rename_i d m n x i
  split at h
  ·rename_i hl hi
   have h2:=h.x.h h.p.1 h.p.2
   rw [Ky,Of] at h2
   exact ⟨_,_,by simp only [qR,hl,hi,h.p.1,h.p.2,and_self,if_true],h2⟩
  exact h.elim
 ·rename_i d n ag x
  split at h
  ·rename_i r p c hl
   obtain ⟨T,u,hT,hs,hn,hk⟩:=E7 h
   obtain ⟨ks,h1,h2,h3⟩:=hk.h
   rw [Ky] at h3
   subst h2
   exact ⟨_,_,by simp [qR,hl,Sn,hn,h1],h3⟩
  exact Gi h
 ·rename_i d m z x
  split at h
  ·rename_i hx
   exact ⟨_,_,by simp [qR,hx,h.p.1,h.p.2],h.x.h⟩
  exact h.elim
 ·rename_i d m z x
  split at h
  ·rename_i hx
   exact ⟨_,_,by simp [qR,hx,h.p.1,h.p.2],h.x⟩
  exact h.elim
 ·rename_i d m ps
  split at h
  ·rename_i Us hU
   exact ⟨_,_,by simp [qR,hU,h.h.1],h.h.2⟩
  exact h.elim
 ·rename_i d m z x
  split at h
  ·rename_i hx
   obtain ⟨T',e1,h1⟩:=h.x.h.h
   rw [Ak] at e1
   subst e1
   exact ⟨_,_,by simp [qR,hx,h.p.1,h.p.2],h1⟩
  exact h.elim
 ·rename_i d m ps
  split at h
  ·rename_i Us hU
   obtain ⟨T',e1,h1⟩:=h.h.2.h
   rw [Ak] at e1
   subst e1
   exact ⟨_,_,by simp [qR,hU,h.h.1],h1⟩
  exact h.elim
 ·rename_i d m x lo hi
  split at h
  case h_3=>exact h.elim
  case h_1=>
   rename_i o cs hx
   split at h
   ·exact h.elim
   ·split at h
    case h_2=>exact h.elim
    rename_i hao
    exact ⟨_,_,by simp only [qR,Ael,hx];rw [if_pos hao];rfl,h⟩
  rename_i o m' xs hx
  split at h
  ·exact h.elim
  split at h
  case h_2=>exact h.elim
  rename_i hm
  have hm':=Nat.eq_of_beq_eq_true hm
  split at h
  case h_2=>exact h.elim
  rename_i l hl
  split at h
  ·obtain ⟨h0,h1,h2,h3⟩:=h.h.h
   have e2:K1 (xs.length:Int) ((none:Option X).map (Ai σ))=some (xs.length:Int):=rfl
   exact ⟨_,_,by simp only [qR,Ael,hx,hl,e2];rw [if_pos ⟨hm',h0,h1,h2⟩];rfl,h3⟩
  rename_i y
  split at h
  case h_2=>exact h.elim
  rename_i hh hy
  obtain ⟨h0,h1,h2,h3⟩:=h.h
  have e2:K1 (xs.length:Int) ((some y).map (Ai σ))=some hh:=hy
  exact ⟨_,_,by simp only [qR,Ael,hx,hl,e2];rw [if_pos ⟨hm',h0,h1,h2⟩];rfl,h3⟩
 ·rename_i d x
  split at h
  ·rename_i hx
   exact ⟨_,_,by simp [qR,hx,Y3],h.h⟩
  ·rename_i hx
   obtain ⟨T,u,hT,hs,hn,hk⟩:=E7 h
   split at hk
   case h_2=>exact hk.elim
   exact ⟨_,_,by simp [qR,hx,Y3,hn],hk.h⟩
  exact Gi h
 ·rename_i d x i
  split at h
  case h_2=>exact h.elim
  rename_i hx hi
  exact ⟨_,_,by simp only [qR,hx,hi];rw [if_pos h.p],h.x⟩
 ·rename_i d x lo hi
  split at h
  case h_2=>exact h.elim
  rename_i s hx
  split at h
  case h_2=>exact h.elim
  rename_i l hl
  split at h
  case h_2=>exact h.elim
  rename_i r hr
  exact ⟨_,_,by simp only [qR,Ai0,hx,hl,hr];rw [if_pos h.p];rfl,h.x⟩
 exact Gi h
def yK (σ:St) (m:Nat) (y:A) (K:List V→St→Prop):Prop:=match y with
 | .val (.sl _ m' ys)=>match Nat.beq m' m with
   | true=>K ys σ
   | false=>False
 | .val (.nilsl _)=>K [] σ
 | .ref r p=>Qh (look σ r) p fun u=>match u with
   | .sl o m' ys=>match o with
     | true=>match Nat.beq m' m with
       | true=>NoOwn ys (K ys σ) (match Fo σ (.ref r p) with
         | some (_,σ1)=>K ys σ1
         | none=>False)
       | false=>False
     | false=>False
   | _=>False
 | _=>False
theorem Aoh {σ:St} {m:Nat} {y:A} {K:List V→St→Prop} (h:yK σ m y K) : ∃ys σ1,yS σ m y=some (ys,σ1)∧K ys σ1:=by
 unfold yK at h
 split at h
 ·split at h
  ·rename_i hm
   exact ⟨_,_,by simp [yS,Nat.eq_of_beq_eq_true hm],h⟩
  exact h.elim
 ·exact ⟨_,_,by simp [yS],h⟩
 ·obtain ⟨T,u,hT,hs,hn,hk⟩:=E7 h
  split at hk
  case h_2=>exact hk.elim
  split at hk
  case h_2=>exact hk.elim
  split at hk
  case h_2=>exact hk.elim
  rename_i hm
  have hm':=Nat.eq_of_beq_eq_true hm
  rcases hk.h with ⟨h1,h2⟩ | ⟨h1,h2⟩
  ·exact ⟨_,_,by simp [yS,hn,hm',h1],h2⟩
  split at h2
  ·rename_i U σ1 ht
   exact ⟨_,_,by simp [yS,hn,hm',h1,ht],h2⟩
  exact h2.elim
 exact h.elim
def Awr:AOp→Bool
 | .mov .. => true
 | .pick .. => true
 | .bin .. => true
 | .binb .. => true
 | .un .. => true
 | .cnv .. => true
 | .len .. => true
 | .ext .. => true
 | .iad .. => true
 | .aad .. => true
 | .fadr .. => true
 | .ld .. => true
 | .nck .. => true
 | .mk .. => true
 | .mkc .. => true
 | .mkr .. => true
 | .bslr .. => true
 | .alc .. => true
 | .mkf .. => true
 | .slc .. => true
 | .sidx .. => true
 | .ssl .. => true
 | .mkm .. => true
 | .mlk .. => true
 | .mln .. => true
 | .bstr .. => true
 | _=>false
def Avp {α:Type} (f:α→V) (l:List α) (i:Nat):List V:=(l.map f).set i .dead
def holeW {α:Type} (f:α→V) (l:List α) (i:Nat) (v:V):List V:=(l.map f).set i v
def Aae (σ:St) (a:A) (K:V→St→Prop):Prop:=match a with
 | .ref r (c::p)=>(match look σ r with
   | .val T=>Aaz (c::p) T fun u=>J7 (c::p) T .dead fun T'=>K u (turnP r T' (c::p) σ)
   | _=>False)
 | a=>match Fy σ a with
   | some (v,σ')=>K v σ'
   | none=>False
theorem Oy {σ:St} {a:A} {K:V→St→Prop} (h:Aae σ a K) : ∃v σ',Fy σ a=some (v,σ')∧K v σ':=by
 unfold Aae at h
 split at h
 ·rename_i r c p
  split at h
  case h_2=>exact h.elim
  rename_i T hT
  obtain ⟨u,h1,h2⟩:=K8 h
  obtain ⟨T',h3,h4⟩:=Et h2
  exact ⟨u,_,by simp only [Fy,Fo,hT,h1,h3],h4⟩
 split at h
 ·exact ⟨_,_,by assumption,h⟩
 exact h.elim
def Atd (o:AOp) (σ:St) (K:St→Prop):Prop:=match o with
 | .mup m k v kd=>match Ai σ m,Ai σ k,Ai σ v with
   | .ref r p,.val s,.val u=>match vLf u with
     | some x=>match look σ r with
       | .val T=>Aaz p T fun nd=>match nd with
         | .mp o es=>(match o with
           | true=>msK kd es s x fun es'=>J7 p T (.mp true es') fun T'=>Bq (Fx r T' (p.length+1) σ) K
           | false=>False)
         | _=>False
       | _=>False
     | none=>False
   | _,_,_=>False
 | .bsl d m ps=>match Kn σ (ps.map (Ai σ)) with
   | some (Us,σ1)=>BslQ d m Us fun l=>Bq (Au d (.val (.sl true m l)) σ1) K
   | none=>False
 | .app d m x y=>yK σ m (Ai σ y) fun ys σ1=>Aae σ1 (Ai σ1 x) fun v σ2=>match v with
   | .sl o m' xs=>(match o with
     | true=>(match Nat.beq m' m with
       | true=>AppQ d xs ys fun l=>Bq (Au d (.val (.sl true m l)) σ2) K
       | false=>False)
     | false=>False)
   | _=>False
 | .slt d m x hi=>match Aes (Ai σ hi) with
   | some h=>Aae σ (Ai σ x) fun v σ2=>match v with
     | .sl o m' xs=>(match o with
       | true=>(match Nat.beq m' m with
         | true=>SlcQ xs 0 h fun ys=>Bq (Au d (.val (.sl true m ys)) σ2) K
         | false=>False)
       | false=>False)
     | _=>False
   | none=>False
 | .idx d m n ag x i=>match Ai σ i with
   | .val (.int k j)=>Ask (0≤j∧j<n) (Idx j 0 n fun j=>Ac0 (if Aix σ (Ai σ x) then Aue d m n ag (Ai σ x) (.val (.int k j)) σ else none) K)
   | _=>False
 | .st n x v=>match Fy σ (Ai σ v) with
   | some (U,σ1)=>match Ez σ1 (Ai σ1 x) with
     | some (.own r p c)=>match look σ1 r with
       | .val T=>Aaz p T fun nd=>match nd.node&&decide (U.cells.length=n)&&Cw U.cells with
         | true=>SetKids nd c U.cells fun nd'=>J7 p T nd' fun T'=>Bq (Fx r T' (p.length+1) σ1) K
         | false=>False
       | _=>False
     | _=>False
   | none=>False
 | .nilq d neg x=>match Ai σ x with
   | .val (.sl o _ xs)=>(match o with
     | true=>False
     | false=>Len xs fun n=>Ask ((0:Int)<(n:Int)) (Bq (Au d (.val (.bool neg)) σ) K))
   | .ref r p=>Qh (look σ r) p fun u=>match u with
     | .sl _ _ xs=>Len xs fun n=>Ask ((0:Int)<(n:Int)) (Bq (Au d (.val (.bool neg)) σ) K)
     | _=>False
   | _=>Ac0 (Bt (.nilq d neg x) σ) K
 | o=>Ac0 (Bt o σ) K
theorem Ake {o:AOp} {σ:St} {K:St→Prop} (h:Atd o σ K) : ∃σ',Bt o σ=some σ'∧K σ':=by
 unfold Atd at h
 split at h
 ·rename_i m k v kd
  split at h
  case h_2=>exact h.elim
  rename_i r p s u hm hk hv
  split at h
  case h_2=>exact h.elim
  rename_i x hx
  split at h
  case h_2=>exact h.elim
  rename_i T hT
  obtain ⟨nd,hs,hq⟩:=K8 h
  split at hq
  case h_2=>exact hq.elim
  rename_i o es
  split at hq
  case h_2=>exact hq.elim
  obtain ⟨es',h0,hq⟩:=Asv hq
  obtain ⟨T',h1,h2⟩:=Et hq
  rw [Az] at h2
  exact ⟨_,by simp [Bt,Atx,hm,hk,hv,hT,hs,Da,hx,h0,h1],h2⟩
 ·rename_i d m ps
  split at h
  ·rename_i Us σ1 hU
   obtain ⟨h1,h2⟩:=h.h
   rw [Az] at h2
   exact ⟨_,by simp [Bt,Ajt,hU,h1],h2⟩
  exact h.elim
 ·rename_i d m x y
  obtain ⟨ys,σ1,hy,hk⟩:=Aoh h
  obtain ⟨v,σ2,hX,hk⟩:=Oy hk
  split at hk
  case h_2=>exact hk.elim
  rename_i o m' xs
  split at hk
  case h_2=>exact hk.elim
  split at hk
  case h_2=>exact hk.elim
  rename_i hm
  have hm':=Nat.eq_of_beq_eq_true hm
  obtain ⟨h1,h2,h3⟩:=hk.h
  rw [Az] at h3
  exact ⟨_,by simp [Bt,Apq,hy,hX,hm',h1,h2],h3⟩
 ·rename_i d m x hi
  split at h
  case h_2=>exact h.elim
  rename_i hh hn
  obtain ⟨v,σ2,hX,hk⟩:=Oy h
  split at hk
  case h_2=>exact hk.elim
  rename_i o m' xs
  split at hk
  case h_2=>exact hk.elim
  split at hk
  case h_2=>exact hk.elim
  rename_i hm
  have hm':=Nat.eq_of_beq_eq_true hm
  obtain ⟨_,h1,h2,h3⟩:=hk.h
  rw [Az] at h3
  exact ⟨_,by simp only [Bt,Atl,hn,hX,hm',h1,h2,and_self,if_true],h3⟩
 ·rename_i d m n ag x i
  split at h
  case h_2=>exact h.elim
  rename_i hi
  obtain ⟨σ',h1,h2⟩:=Te (h.x.h h.p.1 h.p.2)
  exact ⟨σ',by simp only [Bt,hi];exact h1,h2⟩
 ·rename_i n x v
  split at h
  case h_2=>exact h.elim
  rename_i U σ1 ht
  split at h
  case h_2=>exact h.elim
  rename_i r p c hl
  split at h
  case h_2=>exact h.elim
  rename_i T hT
  obtain ⟨u,hs,hk⟩:=K8 h
  split at hk
  case h_2=>exact hk.elim
  rename_i hc
  obtain ⟨nd',h1,h2⟩:=hk.h
  obtain ⟨T',h3,h4⟩:=Et h2
  rw [Az] at h4
  exact ⟨_,by simp only [Bt,Aja,ht,hl,hT,hs,hc,h1,h3,if_true],h4⟩
 ·rename_i d neg x
  split at h
  ·rename_i o m xs e
   split at h
   ·exact h.elim
   obtain ⟨h1,h2⟩:=h.h
   rw [Az] at h2
   refine ⟨_,?_,h2⟩
   match xs,h1 with
   | [],h1=>simp at h1
   | y::ys,_=>simp [Bt,Apm,e,Agi]
  ·rename_i r p e
   obtain ⟨T,u,hT,hs,hn,hk⟩:=E7 h
   split at hk
   case h_2=>exact hk.elim
   rename_i o m xs
   obtain ⟨h1,h2⟩:=hk.h
   rw [Az] at h2
   refine ⟨_,?_,h2⟩
   match xs,h1,hn with
   | [],h1,_=>simp at h1
   | y::ys,_,hn=>simp [Bt,Apm,e,Agi,hn]
  exact Te h
 exact Te h
def Ahn (o:AOp) (σ:St) (K:St→Prop):Prop:=match Awr o with
 | true=>Aba o σ fun d a=>Bq (Au d a σ) K
 | false=>Atd o σ K
theorem O9 {o:AOp} {σ:St} {K:St→Prop} (h:Ahn o σ K) : ∃σ',Bt o σ=some σ'∧K σ':=by
 unfold Ahn at h
 split at h
 ·obtain ⟨d,a,h1,h2⟩:=Oi h
  rw [Az] at h2
  exact ⟨_,(Aii h1).1,h2⟩
 exact Ake h
structure CallQ (P:Program) (f d:Nat) (vs:List V) (ls:List (Nat×Nat×List Nat)) (rs:List Nat) (K:St→Prop) (σ:St):Prop where
 h:Gt σ ls rs=true∧Tri P f vs (D2 d ls rs K σ)
structure CallP (P:Program) (f d:Nat) (vs:List V) (rs:List Nat) (K:V→Prop):Prop where
 h : ∃v,Tri P f vs (fun res _=>res=v∧Dh rs v=true)∧K v
structure CloP (P:Program) (f d:Nat) (cs vs:List V) (rs:List Nat) (K:V→Prop):Prop where
 h : ∃v,Tri P f (vs++fzL cs) (fun res _=>res=v∧Dh rs v=true)∧K v
structure CloQ (P:Program) (f d:Nat) (cs vs:List V) (rs:List Nat) (K:St→Prop) (σ:St):Prop where
 h:Tri P f (vs++fzL cs) (D2 d [] rs K σ)
def Al2 (σ:St) (a:A) (io:Bool) (k:Nat) (K:V→List (Nat×Nat×List Nat)→List Nat→Prop):Prop:=match a with
 | .val v=>K v.fz [] []
 | .ref r p=>Qh (look σ r) p fun u=>match io&&u.node with
   | true=>K u [(k,r,p)] []
   | false=>K u.fz [] [r]
 | a=>match I6 σ a with
   | some v=>K v [] a.roots
   | none=>False
def V1 (σ:St):List (A×Bool)→Nat→(List V→List (Nat×Nat×List Nat)→List Nat→Prop)→Prop
 | [],_,K=>K [] [] []
 | (a,io)::rest,k,K=>Al2 σ a io k fun v ls' rs'=>V1 σ rest (k+1) fun vs ls rs=>K (v::vs) (ls'++ls) (rs'++rs)
theorem Aqr {σ:St} {a:A} {io:Bool} {k:Nat} {K:V→List (Nat×Nat×List Nat)→List Nat→Prop} (h:Al2 σ a io k K) :
  (∃r p u,io=true∧Kg σ a=some (r,p,u)∧K u [(k,r,p)] [])∨((io=true→Kg σ a=none) ∧ ∃v,I6 σ a=some v∧K v [] a.roots):=by
 cases a with
 | val v=>exact .inr ⟨fun _=>rfl,_,rfl,h⟩
 | ref r p=>
   obtain ⟨T,u,hT,hs,hn,hk⟩:=E7 h
   split at hk
   ·rename_i hb
    simp only [Bool.and_eq_true] at hb
    exact .inl ⟨r,p,u,hb.1,by simp [Kg,hn,hb.2],hk⟩
   ·rename_i hb
    refine .inr ⟨fun hi=> ?_,u.fz,by simp [I6,hn],hk⟩
    simp only [Kg,hn]
    cases hu:u.node with
    | false=>rfl
    | true=>rw [hi,hu] at hb;cases hb
 | top=>simp [Al2,I6] at h
 | addr r p c=>simp [Al2,I6] at h
 | fad cs=>simp [Al2,I6] at h
 | tie b f p q=>simp [Al2,I6] at h
 | agg as=>
   simp only [Al2] at h
   split at h
   ·exact .inr ⟨fun _=>rfl,_,by assumption,h⟩
   ·exact h.elim
 | clo f as=>
   simp only [Al2] at h
   split at h
   ·exact .inr ⟨fun _=>rfl,_,by assumption,h⟩
   ·exact h.elim
theorem I5 {σ:St} : ∀ {as:List (A×Bool)} {k:Nat} {K:List V→List (Nat×Nat×List Nat)→List Nat→Prop},V1 σ as k K → ∃vs ls rs,Ch σ as k=some (vs,ls,rs)∧K vs ls rs:=by
 intro as
 induction as with
 | nil=>intro k K h;exact ⟨[],[],[],rfl,h⟩
 | cons e rest ih=>
   intro k K h
   obtain ⟨a,io⟩:=e
   simp only [V1] at h
   rcases Aqr h with ⟨r,p,u,h1,h2,h3⟩ | ⟨h1,v,h2,h3⟩
   ·obtain ⟨vs,ls,rs,h4,h5⟩:=ih h3
    exact ⟨_,_,_,by simp [Ch,h4,h1,h2],h5⟩
   ·obtain ⟨vs,ls,rs,h4,h5⟩:=ih h3
    refine ⟨_,_,_,?_,h5⟩
    simp only [Ch,h4]
    have:(if io=true then Kg σ a else none)=none:=by split<;>simp_all
    simp [this,h2]
structure LendQ (P:Program) (f d n:Nat) (g:Option Nat) (bs:List A) (vs:List V) (ls:List (Nat×Nat×List Nat)) (rs:List Nat) (K:St→Prop) (σ:St):Prop where
 h:Gt σ ls rs=true∧Tri P f (Alm n bs.length g vs) (N3 n g (D2 d ls rs K σ))
structure CallT (P:Program) (f m j d:Nat) (vs:List V) (ls:List (Nat×Nat×List Nat)) (rs:List Nat) (K:St→Prop) (σ:St):Prop where
 h:Gt σ ls rs=true∧Am0 P f m j vs (D2 d ls rs K σ)
def Aol (P:Program) (f d:Nat) (as:List (A×Bool)) (K:St→Prop) (σ:St):Prop:=match Gn as with
 | some (pre,g,bs,rest)=>V1 σ (pre++(bs.map (·,true)++rest)) 0 fun vs ls rs=>LendQ P f d pre.length g bs vs ls rs K σ
 | none=>V1 σ as 0 fun vs ls rs=>CallQ P f d vs ls rs K σ
structure CloV (P:Program) (d:Nat) (u:V) (vs:List V) (rs:List Nat) (K:St→Prop) (σ:St):Prop where
 h : ∃f cs,(u = .clo f cs∨u = .fclo f cs)∧Tri P f (vs++fzL cs) (D2 d [] rs K σ)
theorem CloV.c {P:Program} {f d:Nat} {cs vs:List V} {rs:List Nat} {K:St→Prop} {σ:St} (h:CloQ P f d cs vs rs K σ):CloV P d (.clo f cs) vs rs K σ:=⟨f,cs,.inl rfl,h.h⟩
theorem CloV.f {P:Program} {f d:Nat} {cs vs:List V} {rs:List Nat} {K:St→Prop} {σ:St} (h:CloQ P f d cs vs rs K σ):CloV P d (.fclo f cs) vs rs K σ:=⟨f,cs,.inr rfl,h.h⟩
structure CloN (P:Program) (d:Nat) (as:List (A×Bool)) (ms:List Bool) (u:V) (r:Nat) (p:List Nat) (K:St→Prop) (σ:St):Prop where
 h : ∃tv f cs,u = .clov tv f cs∧F0 P f d (as++Qg ms (Fg r p 0 cs)) K σ
def opK (P:Program) (o:AOp) (σ:St) (K:St→Prop):Prop:=match o with
 | .call d f as=>Aol P f d (C0 σ as) K σ
 | .cally d x as ms=>match Ai σ x with
   | .val u=>V1 σ (C0 σ (as.map (·,false))) 0 fun vs ls rs=>match ls with
     | []=>CloV P d u vs rs K σ
     | _=>False
   | .clo f cs=>Aol P f d (C0 σ (as.map (·,false))++Qg ms cs) K σ
   | .ref r p=>Qh (look σ r) p fun u=>CloN P d (C0 σ (as.map (·,false))) ms u r p K σ
   | .tie true f p q=>V1 σ (C0 σ (as.map (·,false))++Qg ms (p ++ .val .dead::q)) 0 fun vs ls rs=>CallT P f as.length p.length d vs ls rs K σ
   | _=>False
 | .slc d m (.t s) lo hi=>(match look σ s with
   | .val T=>(match T.hasOwn with
     | true=>Bq (Aan s σ) fun σ'=>Ahn (.slc d m (.t s) lo hi) σ' K
     | false=>Ahn (.slc d m (.t s) lo hi) σ K)
   | _=>Ahn (.slc d m (.t s) lo hi) σ K)
 | o=>Ahn o σ K
theorem Aau {P:Program} {f d:Nat} {as:List (A×Bool)} {K:St→Prop} {σ:St} (h:Aol P f d as K σ):F0 P f d as K σ:=by
 unfold Aol at h
 unfold F0
 split at h
 ·rename_i e
  simp only [e]
  obtain ⟨vs,ls,rs,h1,h2⟩:=I5 h
  rw [h1];exact h2.h
 rename_i e
 simp only [e]
 obtain ⟨vs,ls,rs,h1,h2⟩:=I5 h
 rw [h1];exact h2.h
theorem Z3 {P:Program} {o:AOp} {σ:St} {K:St→Prop} (h:opK P o σ K):P3 P o K σ:=by
 unfold opK at h
 unfold P3
 split at h
 ·exact Aau h
 ·split at h
  ·rename_i e
   obtain ⟨vs,ls,rs,h1,h2⟩:=I5 h
   split at h2
   case h_2=>exact h2.elim
   obtain ⟨f,cs,hu,ht⟩:=h2.h
   rcases hu with rfl | rfl
   ·simp only [e,Agb,Rn]
    unfold F0
    rw [Wm]
    simp only
    rw [Q2 (fun k=>Wn _ k) h1]
    exact ⟨rfl,ht⟩
   simp only [e,Agb,Rn]
   unfold F0
   rw [Wm]
   simp only
   rw [Q2 (fun k=>Wn _ k) h1,Tz]
   exact ⟨rfl,ht⟩
  ·rename_i e
   simp only [e,Agb,Rn];exact Aau h
  ·rename_i e
   obtain ⟨T,u,hT,hs,hn,hk0⟩:=E7 h
   obtain ⟨tv,f,cs,rfl,hk⟩:=hk0.h
   simp only [e,Agb,hn,Rn];exact hk
  ·rename_i e
   obtain ⟨vs,ls,rs,h1,h2⟩:=I5 h
   simp only [e,Agb,Rn,As1]
   unfold Ob
   rw [h1];exact h2.h
  exact h.elim
 ·rename_i d m s lo hi
  simp only [X4]
  split at h
  ·rename_i T hT
   simp only [hT]
   split at h
   ·rename_i ho
    rw [Az] at h
    obtain ⟨σ',e,hk⟩:=O9 h
    simp only [ho]
    rw [e];exact hk
   rename_i ho
   obtain ⟨σ',e,hk⟩:=O9 h
   simp only [ho]
   rw [e];exact hk
  rename_i hne
  obtain ⟨σ',e,hk⟩:=O9 h
  split
  ·rename_i σ2 he
   split at he
   ·rename_i T hT;exact absurd hT (hne T)
   rw [e] at he;cases he;exact hk
  rename_i he
  split at he
  ·rename_i T hT;exact absurd hT (hne T)
  rw [e] at he;cases he
 rename_i h1 h2 h3
 obtain ⟨σ',e,hk⟩:=O9 h
 have hp:X4 o σ=σ:=by
  unfold X4
  split
  ·exact absurd rfl (h3 _ _ _ _ _)
  ·rfl
 split
 ·exact absurd rfl (h1 _ _ _)
 ·exact absurd rfl (h2 _ _ _ _)
 rw [hp,e];exact hk
def Amt (P:Program) (o:AOp) (σ:St) (K:St→Prop):Prop:=match o with
 | .call d f as=>(match Agu as with
   | []=>opK P (.call d f as) σ K
   | _::_=>Bq (Wi as σ) fun τ=>opK P (.call d f as) τ K)
 | o=>opK P o σ K
theorem Adq {P:Program} {o:AOp} {σ:St} {K:St→Prop} (h:Amt P o σ K):L7 P o K σ:=by
 unfold Amt at h
 unfold L7
 split at h
 ·simp only [Sx]
  split at h
  ·rename_i e
   simp only [e]
   exact Z3 h
  rename_i e
  rw [Az] at h
  simp only [e]
  exact Z3 h
 rename_i h1
 have hp:Sx o σ=σ:=by
  unfold Sx
  split
  ·exact absurd rfl (h1 _ _ _)
  ·rfl
 rw [hp]
 exact Z3 h
def N4 (P:Program):List G→(St→Prop)→St→Prop
 | [],K,σ=>K σ
 | ⟨none,o⟩::r,K,σ=>Amt P o σ (N4 P r K)
 | ⟨some (s,true),o⟩::r,K,σ=>match look σ s with
   | .val (.bool b)=>Br b (Bq (Kd s true σ) fun τ=>Amt P o τ (N4 P r K)) (Bq (Sr o (Kd s false σ)) (N4 P r K))
   | .val (.tup [])=>Bq (Sr o σ) (N4 P r K)
   | _=>False
 | ⟨some (s,false),o⟩::r,K,σ=>match look σ s with
   | .val (.bool b)=>Br b (Bq (Sr o (Kd s true σ)) (N4 P r K)) (Bq (Kd s false σ) fun τ=>Amt P o τ (N4 P r K))
   | .val (.tup [])=>Bq (Sr o σ) (N4 P r K)
   | _=>False
theorem O3 {P:Program} : ∀ {gs:List G} {K:St→Prop} {σ:St},N4 P gs K σ→Eh P gs K σ:=by
 intro gs
 induction gs with
 | nil=>intro K σ h;exact h
 | cons x r ih=>
   intro K σ h
   obtain ⟨g,o⟩:=x
   have run : ∀ {τ},Amt P o τ (N4 P r K)→L7 P o (Eh P r K) τ:=fun h=>I4 (fun _=>ih) (Adq h)
   match g,h with
   | none,h=>exact run h
   | some (s,true),h=>
     simp only [N4] at h
     simp only [Eh]
     split at h
     ·rename_i b hb
      simp only [hb]
      refine ⟨fun e=> ?_,fun e=> ?_⟩
      ·subst e
       have:=h.t rfl
       rw [Az,M8 hb] at this
       exact run this
      ·have e':b=false:=by simpa using e
       subst e'
       have:=h.f rfl
       rw [Az,M8 hb] at this
       exact ih this
     ·rename_i hb
      simp only [hb]
      rw [Az] at h;exact ih h
     ·exact h.elim
   | some (s,false),h=>
     simp only [N4] at h
     simp only [Eh]
     split at h
     ·rename_i b hb
      simp only [hb]
      refine ⟨fun e=> ?_,fun e=> ?_⟩
      ·subst e
       have:=h.f rfl
       rw [Az,M8 hb] at this
       exact run this
      ·have e':b=true:=by simpa using e
       subst e'
       have:=h.t rfl
       rw [Az,M8 hb] at this
       exact ih this
     ·rename_i hb
      simp only [hb]
      rw [Az] at h;exact ih h
     ·exact h.elim
def yNK (σ:St) (m s:Nat) (y:A) (K:List V→Prop):Prop:=match y with
 | .val (.sl _ m' ys)=>(match Nat.beq m' m with
   | true=>K ys
   | false=>False)
 | .val (.nilsl _)=>K []
 | .ref r p=>(match Nat.beq r s with
   | true=>False
   | false=>Qh (look σ r) p fun u=>match u with
     | .sl o m' ys=>(match o with
       | true=>(match Nat.beq m' m with
         | true=>NoOwn ys (K ys) False
         | false=>False)
       | false=>False)
     | _=>False)
 | _=>False
theorem Aq9 {σ:St} {m s:Nat} {y:A} {K:List V→Prop} (h:yNK σ m s y K) : ∃ys,yN σ m s y=some ys∧K ys:=by
 unfold yNK at h
 split at h
 ·split at h
  ·rename_i hm
   exact ⟨_,by simp [yN,Nat.eq_of_beq_eq_true hm],h⟩
  exact h.elim
 ·exact ⟨_,by simp [yN],h⟩
 ·split at h
  ·exact h.elim
  rename_i hrs
  obtain ⟨T,u,hT,hs,hn,hk⟩:=E7 h
  split at hk
  case h_2=>exact hk.elim
  split at hk
  case h_2=>exact hk.elim
  split at hk
  case h_2=>exact hk.elim
  rename_i hm
  have hm':=Nat.eq_of_beq_eq_true hm
  have hne : ∀ {r:Nat},Nat.beq r s=false→r≠s:=by
   intro r h1 h2;subst h2;simp at h1
  rcases hk.h with ⟨h1,h2⟩ | ⟨_,h2⟩
  ·exact ⟨_,by simp [yN,hn,hm',h1,hne hrs],h2⟩
  exact h2.elim
 exact h.elim
def Aey:List Nat→(List Nat→Prop)→Prop
 | [],K=>K []
 | n::r,K=>Aey r fun s=>K (n::s)
theorem Ahp : ∀(l:List Nat) (K:List Nat→Prop),Aey l K=K l:=by
 intro l
 induction l with
 | nil=>intro K;rfl
 | cons n r ih=>intro K;simp only [Aey];rw [ih]
def Am2 (P:Program) (o:AOp) (σ:St) (K:Nat→A→List Nat→Prop):Prop:=match o with
 | .call d f as=>match as.all (fun e => !e.2) with
   | true=>V1 σ (C0 σ as) 0 fun vs ls rs=>match ls with
     | []=>CallP P f d vs rs fun v=>K d (.val v) []
     | _=>False
   | false=>False
 | .cally d x as _=>(match Ai σ x with
   | .val (.fclo f cs)=>V1 σ (C0 σ (as.map (·,false))) 0 fun vs ls rs=>match ls with
     | []=>CloP P f d cs vs rs fun v=>K d (.val v) []
     | _=>False
   | _=>False)
 | .app d m (.t s) y=>(match look σ s with
   | .val (.sl o m' xs)=>(match o with
     | true=>(match Nat.beq m' m with
       | true=>yNK σ m s (Ai σ y) fun ys=>AppQ d xs ys fun l=>K d (.val (.sl true m l)) [s]
       | false=>False)
     | false=>False)
   | _=>False)
 | .bsl d m ps=>(match Mg σ ps with
   | some (Us,ks)=>BslQ d m Us fun l=>Aey ks fun ks=>K d (.val (.sl true m l)) ks
   | none=>False)
 | .asg d (.t s)=>(match look σ s with
   | .val v=>(match v.hasOwn with
     | true=>K3 (.val v) fun a=>K d a [s]
     | false=>K3 (.val v.up) fun a=>K d a [])
   | _=>False)
 | o=>Aba o σ fun d a=>K d a []
theorem Ajo {P:Program} {o:AOp} {σ:St} {K:Nat→A→List Nat→Prop} (h:Am2 P o σ K):Mu P o σ K:=by
 unfold Am2 at h
 unfold Mu
 split at h
 ·split at h
  case h_2=>exact h.elim
  rename_i hio
  refine ⟨hio,?_⟩
  obtain ⟨vs,ls,rs,h1,h2⟩:=I5 h
  split at h2
  case h_2=>exact h2.elim
  rw [h1]
  exact h2.h
 ·split at h
  case h_2=>exact h.elim
  rename_i hx
  obtain ⟨vs,ls,rs,h1,h2⟩:=I5 h
  split at h2
  case h_2=>exact h2.elim
  simp only [hx,h1]
  exact h2.h
 ·split at h
  case h_2=>exact h.elim
  rename_i hL
  split at h
  case h_2=>exact h.elim
  split at h
  case h_2=>exact h.elim
  rename_i hm
  obtain ⟨ys,h1,h2⟩:=Aq9 h
  simp only [hL,h1]
  obtain ⟨k1,k2,k3⟩:=h2.h
  exact ⟨⟨trivial,Nat.eq_of_beq_eq_true hm,k1,k2⟩,k3⟩
 ·split at h
  case h_2=>exact h.elim
  rename_i ht
  obtain ⟨k1,k2⟩:=h.h
  rw [Ahp] at k2
  simp only [ht]
  exact ⟨k1,k2⟩
 ·split at h
  case h_2=>exact h.elim
  rename_i hL
  split at h
  ·rename_i hv
   rw [Ky] at h
   simp only [hL,hv];exact h
  rename_i hv
  rw [Ky] at h
  simp only [hL,hv];exact h
 rename_i h1 h0 h2 h3 h4
 obtain ⟨d,a,e,hk⟩:=Oi h
 split
 ·exact absurd rfl (h1 _ _ _)
 ·exact absurd rfl (h0 _ _ _ _)
 ·exact absurd rfl (h2 _ _ _ _)
 ·exact absurd rfl (h3 _ _ _)
 ·exact absurd rfl (h4 _ _)
 rw [e];exact hk
def hk (hide kl:List Nat):List Nat:=match kl with
 | []=>hide
 | k::r=>hide++(k::r)
theorem Alh (hide kl:List Nat):hk hide kl=hide++kl:=by
 cases kl with
 | nil=>simp [hk]
 | cons k r=>rfl
def Ar7 (acc:St) (kl:List Nat):Bool:=match kl with
 | []=>true
 | k::r=>Ld acc (k::r)
theorem Ahc {acc:St} {kl:List Nat} (h:Ar7 acc kl=true):Ld acc kl=true:=by
 cases kl with
 | nil=>unfold Ld;simp
 | cons k r=>exact h
def Aoo (kl:List Nat) (acc:St):St:=match kl with
 | []=>acc
 | k::r=>Du (k::r) acc
theorem Ak1 (kl:List Nat) (acc:St):Aoo kl acc=Du kl acc:=by
 cases kl with
 | nil=>
   simp only [Aoo]
   induction acc with
   | nil=>rfl
   | cons e r ih=>obtain ⟨d,a⟩:=e;simp [Du,←ih]
 | cons k r=>rfl
structure LendP (P:Program) (f d:Nat) (vs:List V) (rs:List Nat) (k:Nat) (p:List Nat) (T:V) (K:V→V→Prop):Prop where
 h : ∃v u T',Tri P f vs (fun res outs=>res=v∧outs[k]? = some u)∧(Dh rs v=true∧Dh rs u=true∧u.node=true∧upd p T u=some T')∧K v T'
def Ajj (P:Program) (o:AOp) (s:Nat) (σ:St) (K:Nat→V→Nat×V×Nat→Prop):Prop:=match o with
 | .call d f as=>(match Gn (C0 σ as) with
   | some _=>False
   | none=>V1 σ (C0 σ as) 0 fun vs ls rs=>match ls with
     | [(k,r,p)]=>(match Nat.beq r s && !rs.contains r with
       | true=>(match look σ r with
         | .val T=>LendP P f d vs rs k p T fun v T'=>K d v (r,T',p.length+1)
         | _=>False)
       | false=>False)
     | _=>False)
 | _=>False
theorem Afk {P:Program} {o:AOp} {s:Nat} {σ:St} {K:Nat→V→Nat×V×Nat→Prop} (h:Ajj P o s σ K):Td P o s σ K:=by
 unfold Ajj at h
 unfold Td
 split at h
 case h_2=>exact h.elim
 split at h
 ·exact h.elim
 rename_i hgv
 obtain ⟨vs,ls,rs,h1,h2⟩:=I5 h
 split at h2
 case h_2=>exact h2.elim
 rename_i k r p
 split at h2
 case h_2=>exact h2.elim
 rename_i hb
 simp only [Bool.and_eq_true,Bool.not_eq_true'] at hb
 split at h2
 case h_2=>exact h2.elim
 rename_i T hT
 simp only [hgv,h1,hT]
 exact ⟨⟨Nat.eq_of_beq_eq_true hb.1,hb.2⟩,h2.h⟩
def Ae5 (ls hide:List Nat) (cs:List (Nat×V×Nat)) (σ:St):St:=match ls with
 | []=>σ
 | l::q=>Ki (l::q) hide cs σ
theorem Ap7 (σ:St):V4 [] σ=σ:=by
 induction σ with
 | nil=>rfl
 | cons e r ih=>
   obtain ⟨k,a⟩:=e
   simp [V4,ih]
theorem Arm {ls hide:List Nat} {cs:List (Nat×V×Nat)} {σ:St} (hc : ∀c∈cs,ls.contains c.1=true):Ae5 ls hide cs σ=Ki ls hide cs σ:=by
 cases ls with
 | nil=>
   have:cs=[]:=by
    cases cs with
    | nil=>rfl
    | cons c q=>have:=hc c (by simp);simp at this
   subst this
   simp only [Ae5,Ki,List.filter_nil,Ff]
   have:(List.filter (fun x=>([]:List Nat).contains x) hide)=[]:=by simp
   rw [this,Ap7]
 | cons l q=>rfl
abbrev Ams:=St→List Nat→List (Nat×V×Nat)→(St→Prop)→Prop
def Apc (σ0 acc:St) (o:AOp) (hide kl:List Nat) (cs:List (Nat×V×Nat)) (K:St→Prop) (ih:Ams) (acc1:St) (d:Nat) (a:A) (ks:List Nat):Prop:=match O4 d acc σ0 with
 | true=>(match ks with
   | []=>Bq (acc1++[(d,a.mapR (At d 0))]) fun acc'=>ih acc' kl cs K
   | k::q=>(match W4 (k::q) o (Du (hk hide kl) acc) with
     | true=>Bq (acc1++[(d,a.mapR (At d 0))]) fun acc'=>Aey (kl++(k::q)) fun kl'=>ih acc' kl' cs K
     | false=>False))
 | false=>False
def Tw (σ0 acc:St) (o:AOp) (kl:List Nat) (cs:List (Nat×V×Nat)) (K:St→Prop) (ih:Ams) (acc1:St):Prop:=match o.dst with
 | some d=>(match O4 d acc σ0 with
   | true=>Bq (acc1++[(d,.val (.tup []))]) fun acc'=>ih acc' kl cs K
   | false=>False)
 | none=>False
def Adt (P:Program) (ls:List Nat) (σ0 acc:St) (o:AOp) (hide kl:List Nat) (cs:List (Nat×V×Nat)) (K:St→Prop) (ih:Ams) (acc1:St):Prop:=
 Bq (Du (hk hide kl) acc1++Ae5 ls hide cs σ0) fun σh=>Am2 P o σh (Apc σ0 acc o hide kl cs K ih acc1)
def Aoi (P:Program) (ls:List Nat) (σ0 acc:St) (o:AOp) (s:Nat) (hide kl:List Nat) (cs:List (Nat×V×Nat)) (K:St→Prop) (ih:Ams):Prop:=
 Bq (Du (hk hide kl) acc++Ae5 ls hide.tail cs σ0) fun σh=>Ajj P o s σh fun d v c=>match O4 d acc σ0&&ls.contains s&&Anc (look σ0 s)&&Nat.beq c.1 s with
  | true=>Bq (acc++[(d,.val v)]) fun acc'=>ih acc' kl (cs++[c]) K
  | false=>False
def Yq (P:Program) (ls:List Nat) (σ0:St) (x:G×List Nat) (ih:Ams) (acc:St) (kl:List Nat) (cs:List (Nat×V×Nat)) (K:St→Prop):Prop:=match x with
 | (⟨none,o⟩,hide)=>(match Jv o hide with
   | []=>Adt P ls σ0 acc o hide kl cs K ih acc
   | s::_=>Aoi P ls σ0 acc o s hide kl cs K ih)
 | (⟨some (s,true),o⟩,hide)=>(match (hk hide kl).contains s || !(Jv o hide).isEmpty with
   | true=>False
   | false=>(match look (Du (hk hide kl) acc++Ae5 ls hide cs σ0) s with
     | .val (.bool b)=>Br b (Adt P ls σ0 acc o hide kl cs K ih (Kd s true acc)) (Tw σ0 acc o kl cs K ih (Kd s false acc))
     | .val (.tup [])=>Tw σ0 acc o kl cs K ih acc
     | _=>False))
 | (⟨some (s,false),o⟩,hide)=>(match (hk hide kl).contains s || !(Jv o hide).isEmpty with
   | true=>False
   | false=>(match look (Du (hk hide kl) acc++Ae5 ls hide cs σ0) s with
     | .val (.bool b)=>Br b (Tw σ0 acc o kl cs K ih (Kd s true acc)) (Adt P ls σ0 acc o hide kl cs K ih (Kd s false acc))
     | .val (.tup [])=>Tw σ0 acc o kl cs K ih acc
     | _=>False))
def Anm (σ0 acc:St) (kl:List Nat) (cs:List (Nat×V×Nat)) (K:St→Prop):Prop:=match Ar7 acc kl with
 | true=>(match cs with
   | []=>Bq (Aoo kl acc++σ0) K
   | c::q=>(match Aa6 acc (c::q) with
     | true=>Bq (Aoo kl acc++Ff (c::q) σ0) K
     | false=>False))
 | false=>False
def Ags (P:Program) (ls:List Nat) (σ0:St) (l:List (G×List Nat)):Ams:=
 List.rec (motive:=fun _=>Ams) (Anm σ0) (fun x _ ih=>Yq P ls σ0 x ih) l
theorem Qx {hide:List Nat} {acc σ0:St} {s:Nat} {b:Bool} (h:look (Du hide acc++σ0) s = .val (.bool b)) (hh:hide.contains s=false):Kd s b acc=acc:=by
 rw [E2] at h
 split at h
 ·rw [Wr _ _ _ hh] at h
  exact M8 h
 rename_i hk
 rw [Uc] at hk
 have hk':A6 s acc=false:=by
  rw [hh] at hk;simpa using hk
 clear h hk
 induction acc with
 | nil=>rfl
 | cons e r ih=>
   obtain ⟨k,a⟩:=e
   simp only [A6,Bool.or_eq_false_iff,beq_eq_false_iff_ne] at hk'
   simp only [Kd]
   rw [show Nat.beq k s=false by
    cases hb:Nat.beq k s with
    | false=>rfl
    | true=>exact absurd (Nat.eq_of_beq_eq_true hb) hk'.1]
   simp only [ih hk'.2]
theorem An7 {P:Program} {o:AOp} {σ:St} {c c':Nat→A→List Nat→Prop} (h : ∀d a ks,c d a ks→c' d a ks) (ha:Mu P o σ c):Mu P o σ c':=Wk h ha
theorem Aa3 {P:Program} {ls:List Nat} {σ0:St} : ∀ {l:List (G×List Nat)} {acc:St} {kl:List Nat} {cs:List (Nat×V×Nat)} {KS:List (List Nat)} {CS:List (List (Nat×V×Nat))} {K:St→Prop},KS.flatten=kl→CS.flatten=cs→(∀c∈cs,ls.contains c.1=true)→Ags P ls σ0 l acc kl cs K→E8 P ls σ0 l acc KS CS K:=by
 intro l
 induction l with
 | nil=>
   intro acc kl cs KS CS K hkl hcs hin h
   subst hkl
   change Anm σ0 acc KS.flatten cs K at h
   simp only [Anm] at h
   split at h
   ·rename_i hr
    split at h
    ·rw [Az,Ak1] at h
     refine ⟨⟨Ahc hr,?_⟩,?_⟩
     ·rw [hcs];unfold Aa6;simp
     ·rw [hcs];exact h
    ·split at h
     ·rename_i hr2
      rw [Az,Ak1] at h
      rw [←hcs] at h hr2
      exact ⟨⟨Ahc hr,hr2⟩,h⟩
     ·exact h.elim
   ·exact h.elim
 | cons x r ih=>
   intro acc kl cs KS CS K hkl hcs hin h
   subst hkl
   obtain ⟨⟨g,o⟩,hide⟩:=x
   change Yq P ls σ0 (⟨g,o⟩,hide) (Ags P ls σ0 r) acc KS.flatten cs K at h
   have hbk : ∀hide,Ae5 ls hide cs σ0=Ki ls hide CS.flatten σ0:=fun hide=>by rw [Arm hin,hcs]
   have run:Adt P ls σ0 acc o hide KS.flatten cs K (Ags P ls σ0 r) acc→Mu P o (Du (hide++KS.flatten) acc++Ki ls hide CS.flatten σ0) fun d a ks=>(O4 d acc σ0=true∧W4 ks o (Du (hide++KS.flatten) acc)=true)∧E8 P ls σ0 r (acc++[(d,a.mapR (At d 0))]) (KS++[ks]) (CS++[[]]) K:=by
    intro h
    unfold Adt at h
    rw [Az,Alh,hbk] at h
    refine An7 ?_ (Ajo h)
    intro d a ks hk
    unfold Apc at hk
    rw [Alh] at hk
    split at hk
    ·rename_i hf
     split at hk
     ·rw [Az] at hk
      exact ⟨⟨hf,rfl⟩,ih (by simp) (by simp [hcs]) hin hk⟩
     ·split at hk
      ·rename_i hkk
       rw [Az,Ahp] at hk
       exact ⟨⟨hf,hkk⟩,ih (by simp) (by simp [hcs]) hin hk⟩
      ·exact hk.elim
    ·exact hk.elim
   have skip:Tw σ0 acc o KS.flatten cs K (Ags P ls σ0 r) acc→(match o.dst with
      | some d=>O4 d acc σ0=true∧E8 P ls σ0 r (acc++[(d,.val (.tup []))]) (KS++[[]]) (CS++[[]]) K
      | none=>False):=by
    intro h
    unfold Tw at h
    cases hd:o.dst with
    | none=>rw [hd] at h;exact h.elim
    | some d=>
      rw [hd] at h
      cases hf:O4 d acc σ0 with
      | false=>simp only [hf] at h
      | true=>
        simp only [hf] at h
        rw [Az] at h
        exact ⟨hf,ih (by simp) (by simp [hcs]) hin h⟩
   match g,h with
   | none,h=>
     simp only [Yq] at h
     simp only [E8]
     cases hlo:Jv o hide with
     | nil=>rw [hlo] at h;exact run h
     | cons s q=>
       rw [hlo] at h
       simp only at h ⊢
       unfold Aoi at h
       rw [Az,Alh,hbk] at h
       refine Aat ?_ (Afk h)
       intro d v c hc
       split at hc
       case h_2=>exact hc.elim
       rename_i hcond
       simp only [Bool.and_eq_true] at hcond
       rw [Az] at hc
       refine ⟨⟨hcond.1.1.1,hcond.1.1.2,hcond.1.2⟩,ih (by simp) (by simp [hcs]) ?_ hc⟩
       intro c' hc'
       rcases List.mem_append.1 hc' with h1 | h1
       ·exact hin c' h1
       ·simp at h1
        subst h1
        rw [Nat.eq_of_beq_eq_true hcond.2];exact hcond.1.1.2
   | some (s,true),h=>
     simp only [Yq,Alh,hbk] at h
     simp only [E8]
     split at h
     ·exact h.elim
     rename_i hh
     simp only [Bool.or_eq_false_iff,Bool.not_eq_false',List.isEmpty_iff] at hh
     refine ⟨hh.2,?_⟩
     replace hh:=hh.1
     split at h
     ·rename_i b hb
      simp only [hb]
      refine ⟨fun e=> ?_,fun e=> ?_⟩
      ·subst e
       have:=h.t rfl
       rw [Qx hb hh] at this
       exact run this
      ·have e':b=false:=by simpa using e
       subst e'
       have:=h.f rfl
       rw [Qx hb hh] at this
       exact skip this
     ·rename_i hb
      simp only [hb]
      exact skip h
     ·exact h.elim
   | some (s,false),h=>
     simp only [Yq,Alh,hbk] at h
     simp only [E8]
     split at h
     ·exact h.elim
     rename_i hh
     simp only [Bool.or_eq_false_iff,Bool.not_eq_false',List.isEmpty_iff] at hh
     refine ⟨hh.2,?_⟩
     replace hh:=hh.1
     split at h
     ·rename_i b hb
      simp only [hb]
      refine ⟨fun e=> ?_,fun e=> ?_⟩
      ·subst e
       have:=h.f rfl
       rw [Qx hb hh] at this
       exact run this
      ·have e':b=true:=by simpa using e
       subst e'
       have:=h.t rfl
       rw [Qx hb hh] at this
       exact skip this
     ·rename_i hb
      simp only [hb]
      exact skip h
     ·exact h.elim
structure SameQ (x y:A) (K:Prop):Prop where
 h:x=y∧K
def Air (A:List (Nat×AOp)) (K:St→Prop):St→Prop:=
 List.rec (motive:=fun _=>St→Prop) K (fun e _ ih σ=>Aba e.2 σ fun d a=>match Wb a with
  | true=>Bq (Au d a σ) ih
  | false=>False) A
def Ae1 (xs:List Nat) (σ:St) (K:Prop) (A:List (Nat×AOp)):Prop:=
 List.rec (motive:=fun _=>Prop) K (fun e _ ih=>match xs.contains e.1 with
  | true=>Aba e.2 σ fun d a=>match Ame a d σ with
    | true=>SameQ (look σ d) a ih
    | false=>False
  | false=>ih) A
def Tq (P:Program) (o:AOp) (ds:List Nat) (σ:St) (K:St→Prop):Prop:=match ds with
 | []=>Amt P o σ K
 | s::q=>(match o with
   | .app d m x y=>yK σ m (Ai σ y) fun ys σ1=>Aae σ1 (Ai σ1 x) fun v σ2=>match v with
     | .sl o m' xs=>(match o with
       | true=>(match Nat.beq m' m with
         | true=>AppQ d xs ys fun l=>Bq (Ho (s::q) (Au d (.val (.sl true m l)) σ2)) K
         | false=>False)
       | false=>False)
     | _=>False
   | .slt d m x hi=>(match Aes (Ai σ hi) with
     | some h=>Aae σ (Ai σ x) fun v σ2=>match v with
       | .sl o m' xs=>(match o with
         | true=>(match Nat.beq m' m with
           | true=>SlcQ xs 0 h fun ys=>Bq (Ho (s::q) (Au d (.val (.sl true m ys)) σ2)) K
           | false=>False)
         | false=>False)
       | _=>False
     | none=>False)
   | _=>False)
theorem Aqd (σ:St):Ho [] σ=σ:=by
 have key : ∀a:A,a.mapR (Ae9 [])=a:=by
  intro a
  have e:Ae9 []=fun r _=>some r:=by funext r p;simp [Ae9]
  rw [e];exact Aoj a
 induction σ with
 | nil=>rfl
 | cons e r ih=>obtain ⟨k,a⟩:=e;simp [Ho,ih,key]
theorem V7 {P:Program} {o:AOp} {ds:List Nat} {σ:St} {K:St→Prop} (h:Tq P o ds σ K):L7 P o (fun σ'=>K (Ho ds σ')) σ:=by
 unfold Tq at h
 split at h
 ·refine I4 (fun σ' hk=> ?_) (Adq h)
  rw [Aqd];exact hk
 split at h
 case h_3=>exact h.elim
 ·obtain ⟨ys,σ1,hy,hk⟩:=Aoh h
  obtain ⟨v,σ2,hX,hk⟩:=Oy hk
  split at hk
  case h_2=>exact hk.elim
  split at hk
  case h_2=>exact hk.elim
  split at hk
  case h_2=>exact hk.elim
  rename_i hm
  have hm':=Nat.eq_of_beq_eq_true hm
  obtain ⟨h1,h2,h3⟩:=hk.h
  rw [Az] at h3
  simp only [L7,Sx,P3,X4,Bt,Apq,hy,hX,hm',h1,h2]
  simpa using h3
 split at h
 case h_2=>exact h.elim
 rename_i hh hn
 obtain ⟨v,σ2,hX,hk⟩:=Oy h
 split at hk
 case h_2=>exact hk.elim
 split at hk
 case h_2=>exact hk.elim
 split at hk
 case h_2=>exact hk.elim
 rename_i hm
 have hm':=Nat.eq_of_beq_eq_true hm
 obtain ⟨_,h1,h2,h3⟩:=hk.h
 rw [Az] at h3
 simp only [L7,Sx,P3,X4,Bt,Atl,hn,hX,hm',h1,h2,and_self,if_true]
 simpa using h3
structure Two (X Y:Prop):Prop where
 h:X∧Y
def Ae8 (P:Program) (A:List (Nat×AOp)) (K:St→Prop) (pl:LPlan):Bool→St→Prop:=
 LPlan.rec (motive:=fun _=>Bool→St→Prop) (fun b σ=>match b with
  | true=>K σ
  | false=>True) (fun _ x xs ds _ ot ihn iho _ σ=>match ot with
    | .nil=>Ae1 xs σ (Tq P x ds σ (ihn true)) A
    | .alt .. => Two (Ae1 xs σ (Tq P x ds σ (ihn true)) A) (iho false σ)) pl
theorem Afs : ∀ {A:List (Nat×AOp)} {K:St→Prop} {σ},Air A K σ→Ir A K σ:=by
 intro A
 induction A with
 | nil=>intro K σ h;exact h
 | cons e r ih=>
   intro K σ h
   obtain ⟨i,x⟩:=e
   have h':Aba x σ fun d a=>match Wb a with
    | true=>Bq (Au d a σ) (Air r K)
    | false=>False:=h
   obtain ⟨d,a,h1,h2⟩:=Oi h'
   simp only [Ir,h1]
   split at h2
   ·rename_i hu
    rw [Az] at h2
    exact ⟨hu,ih h2⟩
   ·exact h2.elim
theorem Aa5 {xs:List Nat} {σ:St} {K:Prop} : ∀ {A:List (Nat×AOp)},Ae1 xs σ K A→Amo A xs σ∧K:=by
 intro A
 induction A with
 | nil=>intro h;exact ⟨(fun e he=>by cases he),h⟩
 | cons e r ih=>
   intro h
   change (match xs.contains e.1 with
    | true=>Aba e.2 σ fun d a=>match Ame a d σ with
      | true=>SameQ (look σ d) a (Ae1 xs σ K r)
      | false=>False
    | false=>Ae1 xs σ K r) at h
   split at h
   ·obtain ⟨d,a,h1,h2⟩:=Oi h
    split at h2
    ·rename_i hu
     obtain ⟨h3,h4⟩:=h2.h
     obtain ⟨h5,h6⟩:=ih h4
     refine ⟨fun f hf hx=> ?_,h6⟩
     rcases List.mem_cons.1 hf with rfl | hf
     ·exact ⟨d,a,h1,h3,hu⟩
     ·exact h5 f hf hx
    ·exact h2.elim
   ·rename_i hx
    obtain ⟨h5,h6⟩:=ih h
    refine ⟨fun f hf hx2=> ?_,h6⟩
    rcases List.mem_cons.1 hf with rfl | hf
    ·rw [hx] at hx2;cases hx2
    ·exact h5 f hf hx2
theorem Ahz {P:Program} {A:List (Nat×AOp)} {K:St→Prop} : ∀ {pl:LPlan} {b:Bool} {σ},Ae8 P A K pl b σ→Lg P A K pl b σ:=by
 intro pl
 induction pl with
 | nil=>intro b σ h hb;subst hb;exact h
 | alt i x xs ds nx ot ih1 ih2=>
   intro b σ h
   cases ot with
   | nil=>
     change Ae1 xs σ (Tq P x ds σ (Ae8 P A K nx true)) A at h
     obtain ⟨h1,h2⟩:=Aa5 h
     exact ⟨⟨h1,I4 (fun _=>ih1) (V7 h2)⟩,fun hb=>by cases hb⟩
   | alt j y ys es ny oy=>
     change Two (Ae1 xs σ (Tq P x ds σ (Ae8 P A K nx true)) A) (Ae8 P A K (.alt j y ys es ny oy) false σ) at h
     obtain ⟨h1,h2⟩:=Aa5 h.h.1
     exact ⟨⟨h1,I4 (fun _=>ih1) (V7 h2)⟩,ih2 h.h.2⟩
structure TokE (u:V) (tv:Value) (K:V→Prop):Prop where
 h : ∃f cs,u = .clov tv f cs∧K u
def Aak:List Nat→(St→Prop)→St→Prop
 | [],K,σ=>K σ
 | e::r,K,σ=>match look σ (e%100000) with
   | .val (.raw tv)=>(match look σ ((e/100000-1000)/100) with
     | .val T=>Aaz [e/100000%100] T fun u=>TokE u tv fun u=>J7 [e/100000%100] T .dead fun T'=>Bq (Au (e%100000) (.val u) (Au (e%100000) .top (turnP ((e/100000-1000)/100) T' [e/100000%100] σ))) (Aak r K)
     | _=>Aak r K σ)
   | .val T=>FrzQ T (e/100000) fun T'=>Bq (Au (e%100000) (.val T') (Au (e%100000) .top σ)) (Aak r K)
   | .ref q []=>(match look σ q with
     | .val T=>(match Nat.blt q 100000 with
       | true=>FrzQ T 0 fun T'=>Bq (Au (e%100000) (.val T') (Au (e%100000) .top (Au q (.val T') (Au q .top σ)))) (Aak r K)
       | false=>Aak r K σ)
     | _=>Aak r K σ)
   | .ref q (c::p)=>(match Nat.beq (e/100000) 900 with
     | true=>(match look σ q with
       | .val T=>Aaz (c::p) T fun u=>J7 (c::p) T .dead fun T'=>Bq (unP (e%100000) q (c::p) u T' σ) (Aak r K)
       | _=>Aak r K σ)
     | false=>Aak r K σ)
   | _=>Aak r K σ
theorem Am6 : ∀ {ss:List Nat} {K:St→Prop} {σ:St},Aak ss K σ→K (Ars ss σ):=by
 intro ss
 induction ss with
 | nil=>intro K σ h;exact h
 | cons e r ih=>
   intro K σ h
   simp only [Aak] at h
   simp only [Ars]
   split at h
   ·rename_i tv hT
    split at h
    ·rename_i T hq
     obtain ⟨u,hu,h1⟩:=K8 h
     obtain ⟨f,cs,rfl,h2⟩:=h1.h
     obtain ⟨T',hT',h3⟩:=Et h2
     rw [Az] at h3
     have e2:Pl e σ=Au (e%100000) (.val (.clov tv f cs)) (Au (e%100000) .top (turnP ((e/100000-1000)/100) T' [e/100000%100] σ)):=by
      simp only [Pl,hT,Arq,hq,hu]
      split
      ·simp only [hT']
      ·rename_i hne _;exact absurd rfl hne
     rw [e2]
     exact ih h3
    ·rename_i hne
     have e2:Pl e σ=σ:=by
      simp only [Pl,hT,Arq]
     rw [e2]
     exact ih h
   ·rename_i T hraw hT
    obtain ⟨T',h1,h2⟩:=h.h
    subst h1
    rw [Az] at h2
    have e2:Pl e σ=Aan e σ:=by
     unfold Pl
     split
     ·rename_i tv hT2;rw [hT] at hT2;cases hT2;exact (hraw tv rfl).elim
     ·rename_i hT2;rw [hT] at hT2;cases hT2
     ·rename_i hT2;rw [hT] at hT2;cases hT2
     ·rfl
    rw [e2]
    simp only [Aan,hT]
    exact ih h2
   ·rename_i q hT
    split at h
    ·rename_i T hq
     split at h
     ·rename_i hb
      obtain ⟨T',h1,h2⟩:=h.h
      rw [Ak] at h1
      subst h1
      rw [Az] at h2
      simp only [Pl,hT,hq,hb]
      exact ih h2
     ·rename_i hb
      simp only [Pl,hT,hq,hb]
      exact ih h
    ·rename_i hne
     have e2:Pl e σ=σ:=by
      simp only [Pl,hT]
     rw [e2]
     exact ih h
   ·rename_i q c p hT
    split at h
    ·rename_i h9
     split at h
     ·rename_i T hq
      obtain ⟨u,hu,h1⟩:=K8 h
      obtain ⟨T',hT',h2⟩:=Et h1
      rw [Az] at h2
      have e2:Pl e σ=unP (e%100000) q (c::p) u T' σ:=by
       simp only [Pl,hT,h9,Ari,hq,hu,hT']
      rw [e2]
      exact ih h2
     ·rename_i hne
      have e2:Pl e σ=σ:=by
       simp only [Pl,hT,h9,Ari]
      rw [e2]
      exact ih h
    ·rename_i h9
     have e2:Pl e σ=σ:=by
      simp only [Pl,hT,h9]
     rw [e2]
     exact ih h
   ·rename_i hne hne2 hne3
    have e2:Pl e σ=σ:=by
     unfold Pl
     split
     ·rename_i tv hV;exact absurd hV (hne _)
     ·rename_i q c p hq;exact absurd hq (hne3 q c p)
     ·rename_i q hq;exact absurd hq (hne2 q)
     ·unfold Aan
      split
      ·rename_i V hV;exact absurd hV (hne V)
      ·rfl
    rw [e2]
    exact ih h
structure LoopQ (P:Program) (c:ACode) (Q:Ex→St→Prop) (σ:St):Prop where
 h:awp P (.loop c) Q σ
structure CutQ (P:Program) (c:ACode) (Q:Ex→St→Prop) (σ:St):Prop where
 h:awp P (.cut c) Q σ
def vc (P:Program):ACode→(Ex→St→Prop)→St→Prop
 | .skip,Q,σ=>Q .normal σ
 | .reg gs,Q,σ=>N4 P gs (Q .normal) σ
 | .dreg pre post,Q,σ=>Ags P (Oh pre) σ pre [] [] [] (N4 P post (Q .normal))
 | .dregp n0 ds pre post,Q,σ=>N4 P ((pre.take n0).map (·.1)) (fun σ1=>match Yl n0 (Ho ds σ1) with
   | true=>Bq (Ho ds σ1) fun σ2=>Bq (Rb n0) fun acc=>Ags P (Oh pre) σ2 (pre.drop n0) acc [] [] (N4 P post (Q .normal))
   | false=>False) σ
 | .seq a b,Q,σ=>vc P a (Vz (vc P b Q) Q) σ
 | .cond x t e,Q,σ=>match Ai σ x with
   | .val (.bool b)=>Br b (Bq (Aw1 x true σ) (vc P t Q)) (Bq (Aw1 x false σ) (vc P e Q))
   | _=>False
 | .block i c,Q,σ=>vc P c (Ajg i Q) σ
 | .loop c,Q,σ=>LoopQ P c Q σ
 | .exit i,Q,σ=>Q (.exit i) σ
 | .ret,Q,σ=>Q .ret σ
 | .drop ds c,Q,σ=>Bq (Ho ds σ) (vc P c Q)
 | .cut c,Q,σ=>CutQ P c Q σ
 | .dregl A pl,Q,σ=>Air A (Ae8 P A (Q .normal) pl true) σ
 | .frz ss c,Q,σ=>Aak ss (vc P c Q) σ
theorem Aov {x:X} {b:Bool} {σ:St} (h:Ai σ x = .val (.bool b)):Aw1 x b σ=σ:=by
 cases x with
 | c v=>rfl
 | t s=>
   refine M8 ?_
   simp only [Ai] at h
   split at h
   ·rename_i v hv
    split at h
    ·cases h
    ·rw [hv];exact h
   ·exact h
theorem Si {P:Program} : ∀ {c:ACode} {Q:Ex→St→Prop} {σ:St},vc P c Q σ→awp P c Q σ:=by
 intro c
 induction c with
 | skip=>intro Q σ h;exact h
 | reg gs=>intro Q σ h;exact O3 h
 | dreg pre post=>intro Q σ h;exact O5 (fun _=>O3) (Aa3 rfl rfl (by simp) h)
 | dregp n0 ds pre post=>
   intro Q σ h
   refine Lw (fun σ1 h1=> ?_) (O3 h)
   split at h1
   ·rename_i hd
    rw [Az,Az] at h1
    refine ⟨hd,O5 (fun _=>O3) (Aa3 (by simp) (by simp) (by simp) h1)⟩
   ·exact h1.elim
 | seq a b ih1 ih2=>
   intro Q σ h
   have h':vc P a (Vz (vc P b Q) Q) σ:=h
   show awp P a (Vz (awp P b Q) Q) σ
   exact Ni (Q:=Vz (vc P b Q) Q) (K5 (fun _ hh=>ih2 hh) fun _ _=>id) (ih1 h')
 | cond x t e ih1 ih2=>
   intro Q σ h
   simp only [vc] at h
   simp only [awp]
   split at h
   ·rename_i b hb
    simp only [hb]
    refine ⟨fun e=> ?_,fun e=> ?_⟩
    ·subst e
     have:=h.t rfl
     rw [Az,Aov hb] at this
     exact ih1 this
    ·subst e
     have:=h.f rfl
     rw [Az,Aov hb] at this
     exact ih2 this
   ·exact h.elim
 | block i c ih=>intro Q σ h;exact ih h
 | loop c ih=>intro Q σ h;exact h.h
 | exit i=>intro Q σ h;exact h
 | ret=>intro Q σ h;exact h
 | drop ds c ih=>intro Q σ h;simp only [vc] at h;rw [Az] at h;exact ih h
 | cut c ih=>intro Q σ h;exact h.h
 | frz ss c ih=>intro Q σ h;simp only [vc] at h;exact ih (Am6 h)
 | dregl A R=>intro Q σ h;exact V3 (fun _=>Ahz) (Afs h)
theorem Aig {P:Program} {f N:Nat} {ac:ACode} {rs:List RS} {args:List V} {R:V→List V→Prop} (hf:Bh P f N ac rs=true) (hn:args.length≤N)
  (h:vc P ac (Ane N rs args R) (entry N 0 args)):Tri P f args R:=Asg hf hn (Si h)
def Avz {α:Type} (ks:List Nat) (st:α→St) (inv:α→Prop) (μ:α→Nat) (a:α) (σ:St):Prop := ∃b,restrict ks σ=st b∧inv b∧μ b<μ a
theorem LoopQ.by {α:Type} {P:Program} {c:ACode} {Q:Ex→St→Prop} {σ:St} (ks:List Nat) (st:α→St) (inv:α→Prop) (μ:α→Nat) (a0:α) (h0:restrict ks σ=st a0) (hi:inv a0)
  (hr : ∀a,inv a→vc P c (Vz (Avz ks st inv μ a) Q) (st a)):LoopQ P c Q σ:=by
 refine ⟨Atm ks (fun n σ => ∃a,σ=st a∧inv a∧n=μ a) (μ a0) ⟨a0,h0,hi,rfl⟩ ?_⟩
 rintro n σ ⟨a,rfl,ha,rfl⟩
 refine Ni (K5 ?_ fun _ _=> .inl) (Si (hr a ha))
 rintro σ' ⟨b,h1,h2,h3⟩
 exact ⟨μ b,h3,b,h1,h2,rfl⟩
def Ret (P:Program) (f:Nat) (vs:List V) (v:V):Prop:=Tri P f vs (fun r _=>r=v)
theorem Bp {P:Program} {f N:Nat} {ac:ACode} {rs:List RS} {args:List V} {v:V} (hf:Bh P f N ac rs=true) (hn:args.length≤N)
  (h:vc P ac (Ane N rs args fun r _=>r=v) (entry N 0 args)):Ret P f args v:=Aig hf hn h
abbrev Af (n:Int):V:= .int .i64 n
end Go.Proofs.YtbnoclklhcbidaaDoor.Ax
namespace Go.Proofs.YtbnoclklhcbidaaDoor.Ax
open Go
noncomputable def ask {α:Type} (p:Prop) (x:Option α):Option α:=@ite _ p (Classical.propDecidable p) x none
def nth {α:Type} [Inhabited α] (xs:List α) (i:Nat):α:=xs.getD i default
theorem Fd {α:Type} {p:Prop} {x:Option α} {v:α}:ask p x=some v↔p∧x=some v:=by
 unfold ask;split<;>simp_all
theorem Ae {α:Type} {p:Prop} {x:Option α} (h:p):ask p x=x:=by unfold ask;rw [if_pos h]
def Ab9 {σ τ:Type} (body:σ→Option (σ ⊕ τ)):Nat→σ→Option τ
 | 0,_=>none
 | n+1,s=>match body s with
   | none=>none
   | some (.inl s')=>Ab9 body n s'
   | some (.inr t)=>some t
theorem Ao5 {σ τ:Type} {body:σ→Option (σ ⊕ τ)} : ∀ {n m:Nat} {s:σ} {t:τ},n≤m→Ab9 body n s=some t→Ab9 body m s=some t:=by
 intro n
 induction n with
 | zero=>intro m s t _ h;cases h
 | succ n ih=>
   intro m s t hm h
   match m,hm with
   | m+1,hm=>
     simp only [Ab9] at h ⊢
     split at h
     ·cases h
     ·exact ih (by omega) h
     ·exact h
open Classical in
noncomputable def A7 {σ τ:Type} (body:σ→Option (σ ⊕ τ)) (s:σ):Option τ:=if h : ∃t n,Ab9 body n s=some t then some (Classical.choose h) else none
theorem Kw {σ τ:Type} {body:σ→Option (σ ⊕ τ)} {s:σ} {t:τ}:A7 body s=some t ↔ ∃n,Ab9 body n s=some t:=by
 unfold A7
 constructor
 ·intro h
  split at h
  ·rename_i hx
   cases h
   exact Classical.choose_spec hx
  cases h
 rintro ⟨n,hn⟩
 rw [dif_pos ⟨t,n,hn⟩]
 obtain ⟨m,hm⟩:=Classical.choose_spec (⟨t,n,hn⟩ : ∃t n,Ab9 body n s=some t)
 have h1:=Ao5 (Nat.le_max_left n m) hn
 have h2:=Ao5 (Nat.le_max_right n m) hm
 rw [h1] at h2
 exact h2.symm
theorem Aj6 {σ τ:Type} (body:σ→Option (σ ⊕ τ)) (s:σ):A7 body s=(match body s with
  | none=>none
  | some (.inl s')=>A7 body s'
  | some (.inr t)=>some t):=by
 apply Option.ext
 intro t
 rw [Kw]
 constructor
 ·rintro ⟨n,hn⟩
  cases n with
  | zero=>cases hn
  | succ n=>
    simp only [Ab9] at hn
    split at hn
    ·cases hn
    ·exact Kw.2 ⟨n,hn⟩
    ·exact hn
 intro h
 split at h
 ·cases h
 ·rename_i s' e
  obtain ⟨n,hn⟩:=Kw.1 h
  exact ⟨n+1,by simp only [Ab9,e];exact hn⟩
 rename_i t' e
 exact ⟨1,by simp only [Ab9,e];exact h⟩
def upO {α:Type} (f:Nat→Option α):Prop := ∀n m v,n≤m→f n=some v→f m=some v
open Classical in
noncomputable def Li {α:Type} (f:Nat→Option α):Option α:=if h : ∃v n,f n=some v then some (Classical.choose h) else none
theorem Ts {α:Type} {f:Nat→Option α} {v:α} (h:Li f=some v) : ∃n,f n=some v:=by
 unfold Li at h
 split at h
 ·rename_i hx
  cases h
  exact Classical.choose_spec hx
 cases h
theorem Ah5 {α:Type} {f:Nat→Option α} (hu:upO f) {v:α} {n:Nat} (h:f n=some v):Li f=some v:=by
 unfold Li
 rw [dif_pos ⟨v,n,h⟩]
 obtain ⟨m,hm⟩:=Classical.choose_spec (⟨v,n,h⟩ : ∃v n,f n=some v)
 have h1:=hu _ _ _ (Nat.le_max_left n m) h
 have h2:=hu _ _ _ (Nat.le_max_right n m) hm
 rw [h1] at h2
 exact h2.symm
abbrev A4 (α:Type):List α:=[]
abbrev slr {α:Type} (o:Bool) (m:Nat) (f:α→V) (xs:List α):V:= .sl o m (xs.map f)
class Fz {α:Type} (f:α→V) (g:outParam (α→V)):Prop where
 eq : ∀x,(f x).fz=g x
instance {k:IntKind}:Fz (V.int k) (V.int k):=⟨fun _=>rfl⟩
instance:Fz Af Af:=⟨fun _=>rfl⟩
instance:Fz V.bool V.bool:=⟨fun _=>rfl⟩
instance:Fz V.str V.str:=⟨fun _=>rfl⟩
theorem Ab {α:Type} (f:α→V) {g:α→V} [Fz f g] (xs:List α):fzL (xs.map f)=xs.map g:=by
 induction xs with
 | nil=>rfl
 | cons x r ih=>simp [fzL,Fz.eq,ih]
instance {α:Type} (m:Nat) (f g:α→V) [Fz f g]:Fz (slr true m f) (slr false m g):=⟨fun x=>by simp [slr,V.fz,Ab]⟩
instance {α:Type} (m:Nat) (f:α→V):Fz (slr false m f) (slr false m f):=⟨fun x=>by simp [slr,V.fz]⟩
theorem Ac {α:Type} (m:Nat) (f:α→V) {g:α→V} [Fz f g] (xs:List α):V.fz (.sl true m (xs.map f)) = .sl false m (xs.map g):=by simp [V.fz,Ab]
theorem Ad {α:Type} (f:α→V) {g:α→V} [Fz f g] (x:α):V.fz (f x)=g x:=Fz.eq x
abbrev rA2 {α:Type} (f:α→V) (p:α×α):V:= .agg [f p.1,f p.2]
abbrev rA3 {α:Type} (f:α→V) (p:α×α×α):V:= .agg [f p.1,f p.2.1,f p.2.2]
abbrev rP {α:Type} (o:Bool) (f:α→V) (x:α):V:= .ptr o (f x)
abbrev rO {α:Type} (o:Bool) (f:α→V):Option α→V
 | none=> .nilp
 | some x=> .ptr o (f x)
abbrev rOl {α:Type} (m:Nat) (f:α→V):Option (List α)→V
 | none=> .nl m
 | some xs=> .sl false m (xs.map f)
abbrev rMp {β:Type} (o:Bool) (f:β→Lf) (l:List (ByteArray×β)):V:= .mp o (.s (l.map fun e=>(e.1,f e.2)))
instance {β:Type} (o:Bool) (f:β→Lf):Fz (rMp o f) (rMp false f):=⟨fun x=>by simp [V.fz]⟩
abbrev rMi {β:Type} (o:Bool) (f:β→Lf) (l:List (Int×β)):V:= .mp o (.i (l.map fun e=>(e.1,f e.2)))
instance {β:Type} (o:Bool) (f:β→Lf):Fz (rMi o f) (rMi false f):=⟨fun x=>by simp [V.fz]⟩
theorem LkQ.one {κ:Type} [DecidableEq κ] {β:Type} (f:β→Lf) (g:β→V) (l:List (κ×β)) (z0:β) {es:List (κ×Lf)} {s:κ} {z:Lf} {K:V→Prop} (e:es=l.map fun e=>(e.1,f e.2)) (hz:z=f z0) (hg : ∀b,(f b).v=g b)
  (h:K (g ((Dv l s).getD z0))):LkQ es s z false K:=by
 subst e;subst hz
 refine ⟨?_⟩
 unfold Aly
 rw [Z7,Option.getD_map,hg]
 exact h
theorem LkQ.two {κ:Type} [DecidableEq κ] {β:Type} (f:β→Lf) (g:β→V) (l:List (κ×β)) (z0:β) {es:List (κ×Lf)} {s:κ} {z:Lf} {K:V→Prop} (e:es=l.map fun e=>(e.1,f e.2)) (hz:z=f z0) (hg : ∀b,(f b).v=g b)
  (h:K (.tup [g ((Dv l s).getD z0),.bool (Dv l s).isSome])):LkQ es s z true K:=by
 subst e;subst hz
 refine ⟨?_⟩
 unfold Aly
 rw [Z7,Option.getD_map,hg,Option.isSome_map]
 exact h
theorem MsQ.o {κ:Type} [DecidableEq κ] {β:Type} (f:β→Lf) (l:List (κ×β)) (b:β) {es:List (κ×Lf)} {s:κ} {x:Lf} {K:List (κ×Lf)→Prop} (e:es=l.map fun e=>(e.1,f e.2)) (hx:x=f b)
  (h:K ((G8 l s b).map fun e=>(e.1,f e.2))):MsQ es s x K:=by
 subst e;subst hx
 exact ⟨by rw [Ahm];exact h⟩
theorem LnQ.o {κ β:Type} (f:β→Lf) (l:List (κ×β)) {es:List (κ×Lf)} {K:Nat→Prop} (e:es=l.map fun e=>(e.1,f e.2)) (h:K l.length):LnQ es K:=by
 subst e
 exact ⟨by rw [List.length_map];exact h⟩
theorem BsQ.o (ns:List Int) {xs:List V} {K:ByteArray→Prop} (e:xs=ns.map (V.int .u8)) (h:K (Ady ns)):BsQ xs K:=by
 subst e
 exact ⟨ns,Amw ns,h⟩
instance {α:Type} (f g:α→V) [Fz f g]:Fz (rP true f) (rP false g):=⟨fun x=>by simp [V.fz,Fz.eq]⟩
instance {α:Type} (m:Nat) (f:α→V):Fz (rOl m f) (rOl m f):=⟨fun x=>by cases x<;>simp [rOl,V.fz]⟩
instance {α:Type} (f g:α→V) [Fz f g]:Fz (rO true f) (rO false g):=⟨fun x=>by cases x<;>simp [rO,V.fz,Fz.eq]⟩
instance {α:Type} (f g:α→V) [Fz f g]:Fz (rA2 f) (rA2 g):=⟨fun x=>by simp [V.fz,fzL,Fz.eq]⟩
instance {α:Type} (f g:α→V) [Fz f g]:Fz (rA3 f) (rA3 g):=⟨fun x=>by simp [V.fz,fzL,Fz.eq]⟩
def One {α:Type} (f:α→V):Prop := ∀x,(f x).cells=[f x]∧(f x).isAgg=false
def Tb {α:Type} (m:Nat) (f:α→V):Prop := ∀x,(f x).cells.length=m∧Cw (f x).cells=true
section
variable {α ρ:Type} {v:ρ} {x y:Option ρ} {X Y:Prop}
theorem Br.od {p:Prop} [Decidable p] (h:(if p then x else y)=some v) (h1:p→x=some v→X) (h2:¬p→y=some v→Y):Br (decide p) X Y:=by
 by_cases hp:p
 ·rw [if_pos hp] at h;exact ⟨fun _=>h1 hp h,fun e=>absurd hp (of_decide_eq_false e)⟩
 rw [if_neg hp] at h;exact ⟨fun e=>absurd (of_decide_eq_true e) hp,fun _=>h2 hp h⟩
theorem Br.oe {a b:Int} (h:(if a=b then x else y)=some v) (h1:a=b→x=some v→X) (h2:¬a=b→y=some v→Y):Br (a==b) X Y:=by
 have:(a==b)=decide (a=b):=by rw [Bool.eq_iff_iff];simp
 rw [this];exact Br.od h h1 h2
theorem Br.on {a b:Int} (h:(if a≠b then x else y)=some v) (h1:a≠b→x=some v→X) (h2:¬a≠b→y=some v→Y):Br (a != b) X Y:=by
 have:(a != b)=decide (a≠b):=by rw [Bool.eq_iff_iff];simp
 rw [this];exact Br.od h h1 h2
theorem Br.ob {b:Bool} (h:(if b=true then x else y)=some v) (h1:b=true→x=some v→X) (h2:¬b=true→y=some v→Y):Br b X Y:=by
 cases b
 ·exact ⟨fun e=>Bool.noConfusion e,fun _=>h2 (by simp) (by simpa using h)⟩
 exact ⟨fun _=>h1 rfl (by simpa using h),fun e=>Bool.noConfusion e⟩
theorem Br.flip {b:Bool} (h:Br b Y X):Br (!b) X Y:=by
 cases b
 ·exact ⟨fun _=>h.f rfl,fun e=>Bool.noConfusion e⟩
 exact ⟨fun e=>Bool.noConfusion e,fun _=>h.t rfl⟩
theorem Ask.o {p:Prop} (h:ask p x=some v) (hk:p→x=some v→X):Ask p X:=by
 obtain ⟨h1,h2⟩:=Fd.1 h
 exact ⟨h1,hk h1 h2⟩
theorem Idx.o {j:Int} {lo n:Nat} {K:Int→Prop} (h:(if j=lo then x else y)=some v) (h1:x=some v→K lo) (h2:y=some v→Idx j (lo+1) n K):Idx j lo n K:=by
 refine ⟨fun a b=> ?_⟩
 by_cases hj:j=lo
 ·rw [if_pos hj] at h;rw [hj];exact h1 h
 rw [if_neg hj] at h;exact (h2 h).h (by omega) b
theorem Idx.last {j:Int} {lo n:Nat} {K:Int→Prop} (e:lo+1=n) (h1:K lo):Idx j lo n K:=by
 refine ⟨fun a b=> ?_⟩
 have:j=lo:=by omega
 rw [this];exact h1
theorem Idx.lit {j:Int} {lo n:Nat} {K:Int→Prop} (h:K j):Idx j lo n K:=⟨fun _ _=>h⟩
theorem Len.nil {K:Nat→Prop} (h:K 0):Len [] K:=⟨h⟩
theorem Len.cons {u:V} {us:List V} {K:Nat→Prop} (h:Len us fun n=>K (n+1)):Len (u::us) K:=⟨h.h⟩
variable {f:α→V}
theorem Au0 [Inhabited α] (f:α→V) {xs:List α} {j:Nat} (hj:j<xs.length):(xs.map f).getD j .dead=f (nth xs j):=by
 simp [List.getD_eq_getElem?_getD,nth,hj]
theorem Elem.o [Inhabited α] {xs:List α} {j:Nat} {K:V→Prop} (hj:j<xs.length) (hk:K (f (nth xs j))):Elem (xs.map f) j K:=⟨by rw [Au0 f hj];exact hk⟩
theorem Yi (hf:One f) (xs:List α):Bo (xs.map f)=xs.map f:=by
 induction xs with
 | nil=>rfl
 | cons x r ih=>simp only [List.map_cons,Bo,(hf x).1,ih];rfl
theorem Atk [Inhabited α] (f:α→V) {xs:List α} {c:Nat} (hc:c<xs.length):(xs.map f).drop c=f (nth xs c)::(xs.map f).drop (c+1):=by
 rw [List.drop_eq_getElem_cons (by simpa using hc)]
 simp [nth,List.getD_eq_getElem?_getD,hc]
theorem Cells.one [Inhabited α] (hf:One f) {xs:List α} {c:Nat} {K:List V→Prop} (hc:c<xs.length) (hk:K [f (nth xs c)]):Cells (Bo (xs.map f)) c 1 K:=by
 refine ⟨_,?_,?_,hk⟩
 ·rw [Yi hf,List.length_map];exact hc
 rw [Yi hf,Atk f hc];rfl
theorem Ag1 [Inhabited α] {m:Nat} (hf:Tb m f) : ∀ {xs:List α} {i:Nat},i<xs.length → ∃l r,Bo (xs.map f)=l++((f (nth xs i)).cells++r)∧l.length=i*m:=by
 intro xs
 induction xs with
 | nil=>intro i h;simp at h
 | cons x t ih=>
   intro i h
   cases i with
   | zero=>exact ⟨[],Bo (t.map f),rfl,by simp⟩
   | succ i=>
     obtain ⟨l,r,e,hl⟩:=ih (i:=i) (by simpa using h)
     refine ⟨(f x).cells++l,r,by simp only [List.map_cons,Bo,e,List.append_assoc];rfl,?_⟩
     rw [List.length_append,(hf x).1,hl,Nat.succ_mul];omega
theorem Cells.wide [Inhabited α] {m:Nat} (hf:Tb m f) {xs:List α} {i off n:Nat} {K:List V→Prop} (hi:i<xs.length) (hn:off+n≤m) (hk:K (((f (nth xs i)).cells.drop off).take n)) :
  Cells (Bo (xs.map f)) (A8 i m+off) n K:=by
 obtain ⟨l,r,e,hl⟩:=Ag1 hf hi
 have hw:=(hf (nth xs i)).1
 refine ⟨_,?_,?_,hk⟩
 ·rw [e,Of,List.length_append,List.length_append,hl,hw];omega
 rw [e,Of,←hl,←List.drop_drop,List.drop_left,List.drop_append_of_le_length (by omega),List.take_append_of_le_length (by simp;omega)]
theorem Cells.lit {xs us:List V} {c n:Nat} {K:List V→Prop} (h:Nat.ble (c+n) xs.length=true) (e:(xs.drop c).take n=us) (hk:K us):Cells xs c n K:=⟨us,Nat.le_of_ble_eq_true h,e,hk⟩
theorem Kid.one [Inhabited α] (hf:One f) {m:Nat} {xs:List α} {c:Nat} {K:V→Prop} (hc:c<xs.length) (hk:K (f (nth xs c))):Kid (.sl true m (xs.map f)) c K:=
 ⟨_,rfl,by simp only [V.kids,Yi hf];simp [nth,List.getD_eq_getElem?_getD,hc],hk⟩
theorem Kid.wide [Inhabited α] {m:Nat} (hf:Tb m f) {xs:List α} {i off:Nat} {u:V} {K:V→Prop} (hi:i<xs.length) (hu:(f (nth xs i)).cells[off]? = some u) (hk:K u):Kid (.sl true m (xs.map f)) (A8 i m+off) K:=by
 obtain ⟨l,r,e,hl⟩:=Ag1 hf hi
 refine ⟨u,rfl,?_,hk⟩
 have ho:off<(f (nth xs i)).cells.length:=(List.getElem?_eq_some_iff.1 hu).1
 simp only [V.kids,e]
 rw [Of,List.getElem?_append_right (by omega),hl,Nat.add_sub_cancel_left,List.getElem?_append_left ho,hu]
theorem Kid.lit {T k:V} {c:Nat} {K:V→Prop} (h1:T.stepOk=true) (h2:T.kids[c]? = some k) (hk:K k):Kid T c K:=⟨k,h1,h2,hk⟩
theorem Aq4 (hf:One f) : ∀ {xs:List α} {c:Nat} (w:α),c<xs.length→Lx (xs.map f) c [f w]=some ((xs.set c w).map f):=by
 intro xs
 induction xs with
 | nil=>intro c w h;simp at h
 | cons x r ih=>
   intro c w h
   have hlen:(f x).cells.length=1:=by rw [(hf x).1];rfl
   simp only [List.map_cons,Lx,hlen]
   cases c with
   | zero=>
     have:(f x).setCells 0 [f w]=some (f w):=by
      have hx:=(hf x).2
      have hv:=(hf w).2
      unfold V.setCells
      split
      ·simp_all [V.isAgg]
      ·simp [Ac7,hv]
     simp [this]
   | succ c=>
     have:=ih (c:=c) w (by simpa using h)
     simp [this]
theorem An2 (hf:One f) : ∀ {xs:List α} {c:Nat} (w:α),c<xs.length→Lx ((xs.map f).set c .dead) c [f w]=some ((xs.set c w).map f):=by
 intro xs
 induction xs with
 | nil=>intro c w h;simp at h
 | cons x r ih=>
   intro c w h
   have hlen:(f x).cells.length=1:=by rw [(hf x).1];rfl
   cases c with
   | zero=>
     simp only [List.map_cons,List.set_cons_zero,Lx]
     simp [V.cells,V.setCells,Ac7,(hf w).2]
   | succ c=>
     have:=ih (c:=c) w (by simpa using h)
     simp [Lx,hlen,this]
theorem SetKids.fill (hf:One f) {o:Bool} {m:Nat} {xs:List α} {c:Nat} {us:List V} {K:V→Prop} (w:α) (e:us=[f w]) (hc:c<xs.length) (hk:K (.sl o m ((xs.set c w).map f))):SetKids (.sl o m (Avp f xs c)) c us K:=by
 subst e
 exact ⟨_,by simp only [V.setKids,Avp,An2 hf w hc,Option.map_some],hk⟩
theorem SetKids.one (hf:One f) {o:Bool} {m:Nat} {xs:List α} {c:Nat} {us:List V} {K:V→Prop} (w:α) (e:us=[f w]) (hc:c<xs.length) (hk:K (.sl o m ((xs.set c w).map f))):SetKids (.sl o m (xs.map f)) c us K:=by
 subst e
 exact ⟨_,by simp only [V.setKids,Aq4 hf w hc,Option.map_some],hk⟩
theorem And [Inhabited α] {m:Nat} (hf:Tb m f) : ∀ {xs:List α} {i off:Nat} {us:List V} (w:α),i<xs.length→(f (nth xs i)).setCells off us=some (f w)→off<m→Lx (xs.map f) (i*m+off) us=some ((xs.set i w).map f):=by
 intro xs
 induction xs with
 | nil=>intro i off us w h;simp at h
 | cons x r ih=>
   intro i off us w h hs ho
   simp only [List.map_cons,Lx,(hf x).1]
   cases i with
   | zero=>
     have hs':(f x).setCells off us=some (f w):=hs
     simp [ho,hs']
   | succ i=>
     have:=ih (i:=i) (off:=off) (us:=us) w (by simpa using h) hs ho
     rw [if_neg (by rw [Nat.succ_mul];omega),show (i+1)*m+off-m=i*m+off by rw [Nat.succ_mul];omega,this]
     simp
theorem SetKids.wide [Inhabited α] {m:Nat} (hf:Tb m f) {o:Bool} {xs:List α} {i off:Nat} {us:List V} {K:V→Prop} (w:α) (hi:i<xs.length) (hs:(f (nth xs i)).setCells off us=some (f w)) (ho:off<m) (hk:K (.sl o m ((xs.set i w).map f))) :
  SetKids (.sl o m (xs.map f)) (A8 i m+off) us K:=
 ⟨_,by simp only [V.setKids,Of,And hf w hi hs ho,Option.map_some],hk⟩
theorem Aju [Inhabited α] {m:Nat} (hf:Tb m f) : ∀ {xs:List α} {i off:Nat} {us:List V} {v:V},i<xs.length→(f (nth xs i)).setCells off us=some v→off<m→Lx (xs.map f) (i*m+off) us=some (holeW f xs i v):=by
 intro xs
 induction xs with
 | nil=>intro i off us v h;simp at h
 | cons x r ih=>
   intro i off us v h hs ho
   simp only [List.map_cons,Lx,(hf x).1,holeW]
   cases i with
   | zero=>
     have hs':(f x).setCells off us=some v:=hs
     simp [ho,hs']
   | succ i=>
     have:=ih (i:=i) (off:=off) (us:=us) (v:=v) (by simpa using h) hs ho
     rw [if_neg (by rw [Nat.succ_mul];omega),show (i+1)*m+off-m=i*m+off by rw [Nat.succ_mul];omega,this]
     simp [holeW]
theorem Ajv {m:Nat} (hf:Tb m f) : ∀ {xs:List α} {i off:Nat} {us:List V} {v:V} (w:α),i<xs.length→v.cells.length=m→v.setCells off us=some (f w)→off<m→Lx (holeW f xs i v) (i*m+off) us=some ((xs.set i w).map f):=by
 intro xs
 induction xs with
 | nil=>intro i off us v w h;simp at h
 | cons x r ih=>
   intro i off us v w h hv hs ho
   cases i with
   | zero=>simp [holeW,Lx,hv,ho,hs]
   | succ i=>
     have:=ih (i:=i) (off:=off) (us:=us) (v:=v) w (by simpa using h) hv hs ho
     simp only [holeW,List.map_cons,List.set_cons_succ,Lx,(hf x).1] at this ⊢
     rw [if_neg (by rw [Nat.succ_mul];omega),show (i+1)*m+off-m=i*m+off by rw [Nat.succ_mul];omega,this]
     simp
theorem Len.holeW {xs:List α} {i:Nat} {v:V} {K:Nat→Prop} (h:K xs.length):Len (holeW f xs i v) K:=⟨by simp only [Ax.holeW,List.length_set,List.length_map];exact h⟩
theorem SetKids.mkholeW [Inhabited α] {m:Nat} (hf:Tb m f) {o:Bool} {xs:List α} {i off:Nat} {us:List V} {K:V→Prop} (v:V) (hi:i<xs.length) (hs:(f (nth xs i)).setCells off us=some v) (ho:off<m) (hk:K (.sl o m (holeW f xs i v))) :
  SetKids (.sl o m (xs.map f)) (A8 i m+off) us K:=
 ⟨_,by simp only [V.setKids,Of,Aju hf hi hs ho,Option.map_some],hk⟩
theorem SetKids.fillW {m:Nat} (hf:Tb m f) {o:Bool} {xs:List α} {i off:Nat} {us:List V} {v:V} {K:V→Prop} (w:α) (hi:i<xs.length) (hv:v.cells.length=m) (hs:v.setCells off us=some (f w)) (ho:off<m) (hk:K (.sl o m ((xs.set i w).map f))) :
  SetKids (.sl o m (holeW f xs i v)) (A8 i m+off) us K:=
 ⟨_,by simp only [V.setKids,Of,Ajv hf w hi hv hs ho,Option.map_some],hk⟩
theorem SetKids.lit {T T':V} {c:Nat} {us:List V} {K:V→Prop} (h:T.setKids c us=some T') (hk:K T'):SetKids T c us K:=⟨T',h,hk⟩
theorem MkQ.o {d n:Nat} {z:V} {K:List V→Prop} (f:α→V) (w:α) (e:z=f w) (hk:K ((List.replicate n w).map f)):MkQ d n z K:=⟨by rw [e,←List.map_replicate];exact hk⟩
theorem Am8 {m:Nat} (hf:Tb m f) (ws:List α):L9 m (ws.map f)=true:=by
 induction ws with
 | nil=>rfl
 | cons w r ih=>simp [L9,(hf w).1,(hf w).2,ih]
theorem BslQ.o {d m:Nat} {us:List V} {K:List V→Prop} (f:α→V) (ws:List α) (hf:Tb m f) (e:us=ws.map f) (hk:K (ws.map f)):BslQ d m us K:=by
 subst e;exact ⟨Am8 hf ws,hk⟩
theorem BslQ.lit {d m:Nat} {us:List V} {K:List V→Prop} (e:L9 m us=true) (hk:K us):BslQ d m us K:=⟨e,hk⟩
theorem Ajh {m:Nat} (hf:Tb m f) (ws:List α):Cw (Bo (ws.map f))=true:=by
 induction ws with
 | nil=>rfl
 | cons w r ih=>
   have:=(hf w).2
   simp only [Cw,List.map_cons,Bo,List.all_append,Bool.and_eq_true] at this ih ⊢
   exact ⟨this,ih⟩
theorem AppQ.o {m d:Nat} {us vs:List V} {K:List V→Prop} (f:α→V) (hf:Tb m f) (xs ys:List α) (ex:us=xs.map f) (ey:vs=ys.map f) (h:ask (xs.length+ys.length≤LIM) x=some v) (hk:x=some v→K ((xs++ys).map f)):AppQ d us vs K:=by
 subst ex;subst ey
 obtain ⟨h1,h2⟩:=Fd.1 h
 exact ⟨Ajh hf ys,by simpa using h1,by rw [←List.map_append];exact hk h2⟩
theorem Abj (hf : ∀x,Ba (f x).cells=false) (ws:List α):Ba (Bo (ws.map f))=false:=by
 induction ws with
 | nil=>rfl
 | cons w r ih=>simp only [List.map_cons,Bo,Fw,hf w,ih];rfl
theorem SlcQ.o {l h:Int} {xs:List α} {K:List V→Prop} (f:α→V) (hh:ask (0≤l∧l≤h∧h≤(xs.length:Int)) x=some v) (hk:x=some v→K (((xs.drop l.toNat).take (h.toNat-l.toNat)).map f)):SlcQ (xs.map f) l h K:=by
 obtain ⟨⟨h1,h2,h3⟩,h4⟩:=Fd.1 hh
 exact ⟨h1,h2,by simpa using h3,by rw [←List.map_drop,←List.map_take];exact hk h4⟩
theorem NoOwn.o (hf : ∀x,Ba (f x).cells=false) {ws:List α} (h:X):NoOwn (ws.map f) X Y:=⟨.inl ⟨Abj hf ws,h⟩⟩
theorem NoOwn.lit {us:List V} (e:Ba (Bo us)=false) (h:X):NoOwn us X Y:=⟨.inl ⟨e,h⟩⟩
theorem NoOwn.own {us:List V} (e:Ba (Bo us)=true) (h:Y):NoOwn us X Y:=⟨.inr ⟨e,h⟩⟩
end
def Iq (P:Program) (f:Nat) (vs:List V) (v:V) (k:Nat) (u:V):Prop:=Tri P f vs (fun r o=>r=v∧o[k]? = some u)
theorem M5 {P:Program} {f N:Nat} {ac:ACode} {rs:List RS} {args:List V} {v u:V} {k:Nat} (hf:Bh P f N ac rs=true) (hn:args.length≤N)
  (h:vc P ac (Ane N rs args fun r o=>r=v∧o[k]? = some u) (entry N 0 args)):Iq P f args v k u:=Aig hf hn h
theorem RdL.drop {w:World} {O:Nat→Prop} : ∀(k:Nat) {os:List V} {us:List Value} {fp:List Nat},RdL w O os us fp → ∃fp',RdL w O (os.set k .dead) us fp'∧List.Sublist fp' fp
 | _,_,_,_,.nil=>⟨[],.nil,.slnil⟩
 | 0,_,_,_,.leaf _ t=>⟨_,.leaf (.dead _) t,.refl _⟩
 | 0,_,_,_,.grp _ _ t=>⟨_,.leaf (.dead _) t,List.sublist_append_right _ _⟩
 | 0,_,_,_,.fblk _ _ _ _ t=>⟨_,.leaf (.dead _) t,.refl _⟩
 | 0,_,_,_,.oblk _ _ _ _ _ t=>⟨_,.leaf (.dead _) t,(List.sublist_append_right _ _).cons _⟩
 | 0,_,_,_,.mpf _ _ _ t=>⟨_,.leaf (.dead _) t,.refl _⟩
 | 0,_,_,_,.mpo _ _ _ t=>⟨_,.leaf (.dead _) t,(List.Sublist.refl _).cons _⟩
 | 0,_,_,_,.bpo _ _ t=>⟨_,.leaf (.dead _) t,List.sublist_append_right _ _⟩
 | k+1,_,_,_,.leaf h t=>let ⟨_,a,b⟩:=RdL.drop k t;⟨_,.leaf h a,b⟩
 | k+1,_,_,_,.grp h s t=>let ⟨_,a,b⟩:=RdL.drop k t;⟨_,.grp h s a,(List.Sublist.refl _).append b⟩
 | k+1,_,_,_,.fblk h hc hO s t=>let ⟨_,a,b⟩:=RdL.drop k t;⟨_,.fblk h hc hO s a,b⟩
 | k+1,_,_,_,.oblk h hb hO hk s t=>let ⟨_,a,b⟩:=RdL.drop k t;⟨_,.oblk h hb hO hk s a,((List.Sublist.refl _).append b).cons_cons _⟩
 | k+1,_,_,_,.mpf hb he hO t=>let ⟨_,a,b⟩:=RdL.drop k t;⟨_,.mpf hb he hO a,b⟩
 | k+1,_,_,_,.mpo hb he hO t=>let ⟨_,a,b⟩:=RdL.drop k t;⟨_,.mpo hb he hO a,b.cons_cons _⟩
 | k+1,_,_,_,.bpo hb hO t=>let ⟨_,a,b⟩:=RdL.drop k t;⟨_,.bpo hb hO a,(List.Sublist.refl _).append b⟩
theorem Tri.drop {P:Program} {f:Nat} {args:List V} {k:Nat} {R:V→List V→Prop} (h:Tri P f args fun r o=>R r (o.set k .dead)):Tri P f args R:=by
 intro w O vals fp h1 h2
 obtain ⟨h3,h4⟩:=h w O vals fp h1 h2
 refine ⟨h3,h4.mono ?_⟩
 rintro e w' ⟨res,outs,rv,O',fpr,fpo,hR,he,r1,ro,hnd,hm⟩
 obtain ⟨fp',a,b⟩:=RdL.drop k ro
 have hs:List.Sublist (fpr++fp') (fpr++fpo):=(List.Sublist.refl _).append b
 exact ⟨res,_,rv,O',fpr,fp',hR,he,r1,a,hs.nodup hnd,⟨hm.os,hm.tape,hm.output,hm.size,hm.same,fun b hb=>hm.new b (hs.subset hb)⟩⟩
theorem RdL.deads {w:World} {O:Nat→Prop} : ∀(us:List Value),RdL w O (List.replicate us.length .dead) us []
 | []=> .nil
 | _::us=> .leaf (.dead _) (RdL.deads us)
theorem Tri.freeze {P:Program} {f:Nat} {args:List V} {R:V→List V→Prop} (h:Tri P f args fun r o=>R r.fz o):Tri P f args R:=by
 intro w O vals fp h1 h2
 obtain ⟨h3,h4⟩:=h w O vals fp h1 h2
 refine ⟨h3,h4.mono ?_⟩
 rintro e w' ⟨res,outs,rv,O',fpr,fpo,hR,he,r1,ro,hnd,hm⟩
 have hd:=List.nodup_append.1 hnd
 have hnew : ∀b,b∈fpr→b∈fp∨w.heap.size≤b:=fun b hb=>hm.new b (by simp [hb])
 refine ⟨res.fz,outs,rv,fun b=>O' b∧b∉fpr,[],fpo,hR,he,?_,?_,by simpa using hd.2.1,⟨hm.os,hm.tape,hm.output,hm.size,fun b hb hS=> ?_,fun b hb=>hm.new b (by simpa using Or.inr (by simpa using hb))⟩⟩
 ·have:=r1.fz (O2:=fun b=>O' b∧b∉fpr) (fun b hb hh=>hh.2 hb) (fun b hb _ hh=>hb hh.1)
  simpa [fzL] using this
 ·exact ro.frame (fun b hb=>⟨rfl,(ro.fpO b hb).1,fun hh=>hd.2.2 b hh b hb rfl⟩) (fun b hb _=>⟨rfl,fun hh=>hb hh.1⟩)
 have:=hm.same b hb hS
 refine ⟨this.1,⟨fun hh=>this.2.1 hh.1,fun hh=>⟨this.2.2 hh,fun hf=> ?_⟩⟩⟩
 rcases hnew b hf with h5 | h5
 ·exact hS h5
 omega
def V.ues:V→V
 | .es m=> .sl false m []
 | x=>x
theorem RdL.ues {w O xs vs fp} (h:RdL w O xs vs fp):RdL w O (xs.map V.ues) vs fp:=by
 induction h with
 | nil=>exact .nil
 | leaf h _ ih=>
   refine .leaf ?_ ih
   cases h<;>simp only [V.ues]<;>constructor
 | grp h s _ _ ih=>
   cases h with
   | agg=>exact .grp (.agg _ _) s ih
   | tup=>exact .grp (.tup _ _) s ih
   | clo=>exact .grp (.clo _ _ _) s ih
   | clov v f cs vs e=>exact .grp (.clov _ _ _ _ e) s ih
   | fclo f cs ch vs e=>exact .grp (.fclo _ _ _ _ e) s ih
 | fblk h hc hO s _ _ ih=>
   cases h with
   | sl o m xs b off cap hm hcap=>exact .fblk (.sl _ _ _ _ _ _ hm hcap) hc hO s ih
   | ptr o x b off=>exact .fblk (.ptr _ _ _ _) hc hO s ih
 | oblk h hb hO hk s _ _ ih=>
   cases h with
   | sl o m xs b off cap hm hcap=>exact .oblk (.sl _ _ _ _ _ _ hm hcap) hb hO hk s ih
   | ptr o x b off=>exact .oblk (.ptr _ _ _ _) hb hO hk s ih
 | mpf hb he hO _ ih=>exact .mpf hb he hO ih
 | mpo hb he hO _ ih=>exact .mpo hb he hO ih
 | bpo hb hO _ ih=>exact .bpo hb hO ih
theorem Ret.es {P:Program} {f:Nat} {vs us:List V} {v:V} (e:vs.map V.ues=us) (h:Ret P f us v):Ret P f vs v:=by
 subst e
 intro w O vals fp h1 h2
 obtain ⟨h3,h4⟩:=h w O vals fp h1.ues h2
 refine ⟨h3,h4.mono ?_⟩
 rintro e w' ⟨res,outs,rv,O',fpr,fpo,hR,he,r1,ro,hnd,hm⟩
 have hd:=List.nodup_append.1 hnd
 exact ⟨res,List.replicate vals.length .dead,rv,O',fpr,[],hR,he,r1,RdL.deads vals,by simpa using hd.1,hm.shrink fun b hb=>by simpa using Or.inl (by simpa using hb)⟩
theorem Lo {P:Program} {f N:Nat} {ac:ACode} {rs:List RS} {args:List V} {v:V} (hf:Bh P f N ac rs=true) (hn:args.length≤N)
  (h:vc P ac (Ane N rs args fun r _=>r.fz=v) (entry N 0 args)):Ret P f args v:=Tri.freeze (R:=fun r _=>r=v) (Aig hf hn h)
theorem App {P:Program} {f N:Nat} {ac:ACode} {rs:List RS} {args:List V} {v u:V} {k:Nat} (hf:Bh P f N ac rs=true) (hn:args.length≤N)
  (h:vc P ac (Ane N rs args fun r o=>r.fz=v∧o[k]? = some u) (entry N 0 args)):Iq P f args v k u:=Tri.freeze (R:=fun r o=>r=v∧o[k]? = some u) (Aig hf hn h)
theorem Ret.frz {P:Program} {f:Nat} {vs:List V} {v v':V} (h:Ret P f vs v) (e:v.fz=v'):Ret P f vs v':=
 Tri.freeze (R:=fun r _=>r=v') (Tri.mono h fun r _ hr=>by rw [show r=v from hr];exact e)
theorem Iq.frz {P:Program} {f k:Nat} {vs:List V} {v v' u:V} (h:Iq P f vs v k u) (e:v.fz=v'):Iq P f vs v' k u:=
 Tri.freeze (R:=fun r o=>r=v'∧o[k]? = some u) (Tri.mono h fun r _ hr=>⟨by rw [show r=v from hr.1];exact e,hr.2⟩)
class NoFz {α:Type} (f:α→V):Prop where
 eq : ∀x,(f x).noFz=true
instance {k:IntKind}:NoFz (V.int k):=⟨fun _=>rfl⟩
instance:NoFz Af:=⟨fun _=>rfl⟩
instance:NoFz V.bool:=⟨fun _=>rfl⟩
instance:NoFz V.str:=⟨fun _=>rfl⟩
theorem E5 {α:Type} {f:α→V} [NoFz f] (xs:List α):Ct (xs.map f)=true:=by
 induction xs with
 | nil=>rfl
 | cons x r ih=>simp [Ct,NoFz.eq,ih]
instance {α:Type} (m:Nat) (f:α→V) [NoFz f]:NoFz (slr true m f):=⟨fun x=>by simp [V.noFz,E5]⟩
instance {β:Type} (f:β→Lf):NoFz (rMp true f):=⟨fun x=>by simp [V.noFz]⟩
instance {β:Type} (f:β→Lf):NoFz (rMi true f):=⟨fun x=>by simp [V.noFz]⟩
instance {α:Type} (f:α→V) [NoFz f]:NoFz (rP true f):=⟨fun x=>by simp [V.noFz,NoFz.eq]⟩
instance {α:Type} (f:α→V) [NoFz f]:NoFz (rO true f):=⟨fun x=>by cases x<;>simp [V.noFz,NoFz.eq]⟩
instance {α:Type} (f:α→V) [NoFz f]:NoFz (rA2 f):=⟨fun x=>by simp [V.noFz,Ct,NoFz.eq]⟩
instance {α:Type} (f:α→V) [NoFz f]:NoFz (rA3 f):=⟨fun x=>by simp [V.noFz,Ct,NoFz.eq]⟩
section
variable {P:Program} {K:St→Prop} {σ:St} {β ρ:Type} {v:ρ} {oo:Option β} {k:β→Option ρ}
theorem CallQ.o (rep:β→V) {vs vs':List V} {f d:Nat} (e:vs=vs') (h:oo.bind k=some v) (hr : ∀r,oo=some r→Ret P f vs' (rep r)) (hk : ∀r,k r=some v→Bq (Au d (.val (rep r)) σ) K):CallQ P f d vs [] [] K σ:=by
 subst e
 obtain ⟨r,h1,h2⟩:=Option.bind_eq_some_iff.1 h
 have h3:=hk r h2
 rw [Az] at h3
 refine ⟨rfl,Tri.mono (hr r h1) ?_⟩
 rintro r o rfl
 exact ⟨rfl,h3⟩
theorem CallQ.rd (rep:β→V) {vs vs':List V} {rs:List Nat} {f d:Nat} (e:vs=vs') (hn : ∀r,(rep r).noFz=true) (h:oo.bind k=some v) (hr : ∀r,oo=some r→Ret P f vs' (rep r)) (hk : ∀r,k r=some v→Bq (Au d (.val (rep r)) σ) K):CallQ P f d vs [] rs K σ:=by
 subst e
 obtain ⟨r,h1,h2⟩:=Option.bind_eq_some_iff.1 h
 have h3:=hk r h2
 rw [Az] at h3
 refine ⟨rfl,Tri.mono (hr r h1) ?_⟩
 rintro r' o rfl
 exact ⟨by simp [Dh,hn r],h3⟩
theorem CloQ.o (rep:β→V) {vs vs' cs:List V} {rs:List Nat} {f d:Nat} (e:vs++fzL cs=vs') (hn : ∀r,Dh rs (rep r)=true) (h:oo.bind k=some v) (hr : ∀r,oo=some r→Ret P f vs' (rep r)) (hk : ∀r,k r=some v→Bq (Au d (.val (rep r)) σ) K):CloQ P f d cs vs rs K σ:=by
 subst e
 obtain ⟨r,h1,h2⟩:=Option.bind_eq_some_iff.1 h
 have h3:=hk r h2
 rw [Az] at h3
 refine ⟨Tri.mono (hr r h1) ?_⟩
 rintro r' o rfl
 exact ⟨hn r,h3⟩
theorem CloP.o (rep:β→V) {vs vs' cs:List V} {rs:List Nat} {f d:Nat} {K:V→Prop} (e:vs++fzL cs=vs') (hn : ∀r,Dh rs (rep r)=true) (h:oo.bind k=some v) (hr : ∀r,oo=some r→Ret P f vs' (rep r)) (hk : ∀r,k r=some v→K (rep r)):CloP P f d cs vs rs K:=by
 subst e
 obtain ⟨r,h1,h2⟩:=Option.bind_eq_some_iff.1 h
 exact ⟨_,Tri.mono (hr r h1) (by rintro r' _ rfl;exact ⟨rfl,hn r⟩),hk r h2⟩
theorem CallP.o (rep:β→V) {vs vs':List V} {f d:Nat} {K:V→Prop} (e:vs=vs') (h:oo.bind k=some v) (hr : ∀r,oo=some r→Ret P f vs' (rep r)) (hk : ∀r,k r=some v→K (rep r)):CallP P f d vs [] K:=by
 subst e
 obtain ⟨r,h1,h2⟩:=Option.bind_eq_some_iff.1 h
 exact ⟨_,Tri.mono (hr r h1) (by rintro r' _ rfl;exact ⟨rfl,rfl⟩),hk r h2⟩
theorem CallP.rd (rep:β→V) {vs vs':List V} {rs:List Nat} {f d:Nat} {K:V→Prop} (e:vs=vs') (hn : ∀r,(rep r).noFz=true) (h:oo.bind k=some v) (hr : ∀r,oo=some r→Ret P f vs' (rep r)) (hk : ∀r,k r=some v→K (rep r)):CallP P f d vs rs K:=by
 subst e
 obtain ⟨r,h1,h2⟩:=Option.bind_eq_some_iff.1 h
 exact ⟨_,Tri.mono (hr r h1) (by rintro r' _ rfl;exact ⟨rfl,by simp [Dh,hn r]⟩),hk r h2⟩
theorem FrzQ.z {T:V} {K:V→Prop} (h:K T.fz):FrzQ T 0 K:=⟨_,Ak T,h⟩
theorem FrzQ.d {T:V} {n:Nat} {K:V→Prop} (T':V) (e:T.fzAt n=T') (h:K T'):FrzQ T n K:=⟨_,e,h⟩
theorem LendP.io {γ:Type} {o:Option (β×γ)} {k:β×γ→Option ρ} (rep:β→V) (rep2:γ→V) {vs vs':List V} {rs:List Nat} {f d j:Nat} {T:V} {K:V→V→Prop} (e:vs=vs')
  (hn : ∀b,Dh rs (rep b)=true) (hn2 : ∀b,Dh rs (rep2 b)=true∧(rep2 b).node=true) (hu : ∀u,upd [] T u=some u) (h:o.bind k=some v) (hr : ∀x,o=some x→Iq P f vs' (rep x.1) j (rep2 x.2))
  (hk : ∀b c,k (b,c)=some v→K (rep b) (rep2 c)):LendP P f d vs rs j [] T K:=by
 subst e
 obtain ⟨⟨b,c⟩,h1,h2⟩:=Option.bind_eq_some_iff.1 h
 exact ⟨_,_,_,hr _ h1,⟨hn b,(hn2 c).1,(hn2 c).2,hu _⟩,hk b c h2⟩
theorem CallQ.io {γ:Type} {o:Option (β×γ)} {k:β×γ→Option ρ} (rep:β→V) (rep2:γ→V) {vs vs':List V} {rs:List Nat} {f d j r:Nat} {p:List Nat} {T:V} (e:vs=vs') (hroots:rs.contains r=false)
  (hn : ∀b,Dh rs (rep b)=true) (hn2 : ∀b,Dh rs (rep2 b)=true∧(rep2 b).node=true) (hT:look σ r = .val T) (h:o.bind k=some v) (hr : ∀x,o=some x→Iq P f vs' (rep x.1) j (rep2 x.2))
  (hk : ∀b c,k (b,c)=some v→J7 p T (rep2 c) fun T'=>Bq (Au d (.val (rep b)) (Fx r T' (p.length+1) σ)) K):CallQ P f d vs [(j,r,p)] rs K σ:=by
 subst e
 obtain ⟨⟨b,c⟩,h1,h2⟩:=Option.bind_eq_some_iff.1 h
 obtain ⟨T',h3,h4⟩:=Et (hk b c h2)
 rw [Az] at h4
 refine ⟨by simp only [Gt,hroots];rfl,Tri.mono (hr _ h1) ?_⟩
 rintro res outs ⟨rfl,ho⟩
 refine ⟨hn b,?_⟩
 rw [ho,hT]
 exact ⟨(hn2 c).1,by rw [h3];show K (Au d _ (Fx r T' (p.length+Ip (rep2 c)) σ));rw [Qe (hn2 c).2];exact h4⟩
theorem CallQ.give (rep:β→V) {vs vs':List V} {rs:List Nat} {f d j r:Nat} {p:List Nat} {T:V} (e:vs=vs') (hroots:rs.contains r=false)
  (hn : ∀b,Dh rs (rep b)=true) (hT:look σ r = .val T) (h:oo.bind k=some v) (hr : ∀x,oo=some x→Iq P f vs' (rep x) j .dead)
  (hk : ∀b,k b=some v→J7 p T .dead fun T'=>Bq (Au d (.val (rep b)) (Fx r T' p.length σ)) K):CallQ P f d vs [(j,r,p)] rs K σ:=by
 subst e
 obtain ⟨b,h1,h2⟩:=Option.bind_eq_some_iff.1 h
 obtain ⟨T',h3,h4⟩:=Et (hk b h2)
 rw [Az] at h4
 refine ⟨by simp only [Gt,hroots];rfl,Tri.mono (hr _ h1) ?_⟩
 rintro res outs ⟨rfl,ho⟩
 refine ⟨hn b,?_⟩
 rw [ho,hT]
 exact ⟨by cases rs<;>rfl,by rw [h3];exact h4⟩
theorem LendQ.io {γ:Type} {o:Option (β×γ)} {k:β×γ→Option ρ} (rep:β→V) (rep2:γ→V) (cs:γ→List V) (fld:γ→V) {g:Option Nat} {bs:List A} {vs vs':List V} {rs:List Nat} {f d j r:Nat} {p:List Nat} {T:V}
  (e:Alm 0 bs.length g vs=vs') (hc : ∀c,rep2 c=Apz g (cs c)) (hf : ∀c,(cs c)[j]? = some (fld c)) (hroots:rs.contains r=false)
  (hn : ∀b,Dh rs (rep b)=true) (hn2 : ∀b,Dh rs (fld b)=true∧(fld b).node=true) (hT:look σ r = .val T) (h:o.bind k=some v) (hr : ∀x,o=some x→Iq P f vs' (rep x.1) 0 (rep2 x.2))
  (hk : ∀b c,k (b,c)=some v→J7 p T (fld c) fun T'=>Bq (Au d (.val (rep b)) (Fx r T' (p.length+1) σ)) K):LendQ P f d 0 g bs vs [(j,r,p)] rs K σ:=by
 subst e
 obtain ⟨⟨b,c⟩,h1,h2⟩:=Option.bind_eq_some_iff.1 h
 obtain ⟨T',h3,h4⟩:=Et (hk b c h2)
 rw [Az] at h4
 refine ⟨by simp only [Gt,hroots];rfl,Tri.mono (hr _ h1) ?_⟩
 rintro res outs ⟨rfl,ho⟩
 cases outs with
 | nil=>cases ho
 | cons x o=>
   simp only [List.getElem?_cons_zero,Option.some.injEq] at ho
   subst ho
   have hj:(cs c++o)[j]? = some (fld c):=by
    have hlt:=(List.getElem?_eq_some_iff.1 (hf c)).1
    rw [List.getElem?_append_left hlt];exact hf c
   show N3 0 g _ _ (rep2 c::o)
   rw [hc c]
   simp only [N3,List.drop_zero,Avi]
   refine ⟨hn b,?_⟩
   simp only [List.take_zero,List.nil_append]
   rw [hj,hT]
   exact ⟨(hn2 c).1,by rw [h3];show K (Au d _ (Fx r T' (p.length+Ip (fld c)) σ));rw [Qe (hn2 c).2];exact h4⟩
theorem Wt {r c:Nat} {p:List Nat} {u:V} {K:A→Prop} (h:u.hasOwn=true) (hk:K (.ref r (p++[c]))):K3 (mkA false (Fg r p c [u])) K:=by
 have e:mkA false (Fg r p c [u]) = .ref r (p++[c]):=by simp only [mkA,Fg,Akt,h,if_true,Bool.false_eq_true,if_false]
 rw [e];exact hk
instance inhSum {α δ:Type} [Inhabited α]:Inhabited (α ⊕ δ):=⟨.inl default⟩
theorem CloV.o {oo:Option β} {k:β→Option ρ} (rep:β→V) {u:V} {vs vs':List V} {rs:List Nat} {d:Nat} {K:St→Prop} (e:vs=vs') (hn : ∀r,Dh rs (rep r)=true) (h:oo.bind k=some v)
  (hr : ∀r,oo=some r → ∃f cs,u = .fclo f cs∧Ret P f (vs'++fzL cs) (rep r)) (hk : ∀r,k r=some v→Bq (Au d (.val (rep r)) σ) K):CloV P d u vs rs K σ:=by
 subst e
 obtain ⟨r,h1,h2⟩:=Option.bind_eq_some_iff.1 h
 obtain ⟨f,cs,hu,ht⟩:=hr r h1
 have h3:=hk r h2
 rw [Az] at h3
 exact ⟨f,cs,.inr hu,Tri.mono ht (by rintro r' _ rfl;exact ⟨hn r,h3⟩)⟩
def Ayc (P:Program) (vs:List V) (u r u':V):Prop:=
 ∃(tv:Value) (f:Nat) (pre post:List V) (T T':V),u = .clov tv f (pre++T::post)∧u' = .clov tv f (pre++T'::post)∧Ba pre=false∧Ba post=false∧(T.hasOwn=true∧T.node=true)∧(T'.node=true∧T'.noFz=true) ∧
   Iq P f (vs++(fzL pre++T::fzL post)) r (vs.length+pre.length) T'
theorem Su (r:Nat) (p:List Nat) : ∀(c:Nat) (ks:List V),Ba ks=false→Fg r p c ks=ks.map .val
 | _,[],_=>rfl
 | c,k::ks,h=>by
   simp only [Ba,Bool.or_eq_false_iff] at h
   simp only [Fg,Akt,h.1,Bool.false_eq_true,if_false,List.map_cons,Su r p (c+1) ks h.2]
theorem X8 (r:Nat) (p:List Nat) : ∀(c:Nat) (ks ls:List V),Fg r p c (ks++ls)=Fg r p c ks++Fg r p (c+ks.length) ls
 | c,[],ls=>by simp [Fg]
 | c,k::ks,ls=>by simp only [List.cons_append,Fg,X8 r p (c+1) ks ls,List.length_cons,show c+1+ks.length=c+(ks.length+1) by omega]
theorem Add : ∀ {ms:List Bool} {as:List A},(∀i,i<as.length→ms[i]? = some true)→Qg ms as=as.map (·,true)
 | [],[],_=>rfl
 | _::_,[],_=>rfl
 | [],a::as,h=>by have:=h 0 (by simp);simp at this
 | m::ms,a::as,h=>by
   have h0:=h 0 (by simp)
   simp only [List.getElem?_cons_zero,Option.some.injEq] at h0
   subst h0
   have:=Add (ms:=ms) (as:=as) fun i hi=>by simpa using h (i+1) (by simp;omega)
   simp [Qg,this]
theorem Aa7 {σ:St} : ∀(cs:List V) (k:Nat),Ch σ ((cs.map A.val).map (·,true)) k=some (fzL cs,[],[]):=by
 intro cs
 induction cs with
 | nil=>intro k;rfl
 | cons c r ih=>intro k;simp only [List.map_cons,Ch,ih,I6,fzL,A.roots,Kg];rfl
theorem Ag0 {σ:St} {bs:List (A×Bool)} {us:List V} {ls2:List (Nat×Nat×List Nat)} : ∀ {as:List (A×Bool)} {k:Nat} {vs rs},Ch σ as k=some (vs,[],rs)→Ch σ bs (k+as.length)=some (us,ls2,[]) →
  Ch σ (as++bs) k=some (vs++us,ls2,rs):=by
 intro as
 induction as with
 | nil=>intro k vs rs h hb;simp [Ch] at h;obtain ⟨rfl,rfl⟩:=h;simpa using hb
 | cons e rest ih=>
   intro k vs rs h hb
   obtain ⟨a,io⟩:=e
   simp only [Ch] at h
   split at h
   ·cases h
   ·rename_i vs' ls' rs' h1
    split at h
    ·cases h
    ·rename_i hl
     split at h
     ·rename_i v hv
      cases h
      simp only [List.cons_append,Ch]
      rw [ih h1 (by simpa [Nat.add_assoc,Nat.add_comm 1] using hb)]
      simp [hl,hv]
     ·cases h
theorem Aj7 : ∀(p:List Nat) {T u t u':V} {i:Nat},sub p T=some u→u.kids[i]?.isSome=true→u.setKids i [t]=some u'→upd (p++[i]) T t=upd p T u'
 | [],T,u,t,u',i,hs,hi,hu=>by
   simp only [sub,Option.some.injEq] at hs
   subst hs
   obtain ⟨k,hk⟩:=Option.isSome_iff_exists.1 hi
   simp only [List.nil_append,upd,hk]
   exact hu
 | c::p,T,u,t,u',i,hs,hi,hu=>by
   simp only [sub] at hs
   split at hs
   ·split at hs
    ·rename_i k hk
     simp only [List.cons_append,upd,hk,Aj7 p hs hi hu]
    ·cases hs
   ·cases hs
theorem CloN.o {γ:Type} {o:Option (β×γ)} {k:β×γ→Option ρ} (rep:β→V) (uc:γ→V) {as:List (A×Bool)} {vs vs':List V} {rs:List Nat} {ms:List Bool} {u T0:V} {r d:Nat} {p:List Nat} {K:St→Prop}
  (e:vs=vs') (ha:Ch σ as 0=some (vs,[],rs)) (hg0:as.all (fun e => !e.2)=true) (hm : ∀i,i<9→ms[i]? = some true) (hroots:rs.contains r=false) (hn : ∀b,Dh rs (rep b)=true) (hL:look σ r = .val T0) (hsub:sub p T0=some u)
  (h:o.bind k=some v) (hr : ∀x,o=some x→Ayc P vs' u (rep x.1) (uc x.2) ∧ ∀tv f cs,u = .clov tv f cs→cs.length≤9)
  (hk : ∀b c,k (b,c)=some v→J7 p T0 (uc c) fun T'=>Bq (Au d (.val (rep b)) (Fx r T' (p.length+2) σ)) K):CloN P d as ms u r p K σ:=by
 subst e
 obtain ⟨⟨b,c⟩,h1,h2⟩:=Option.bind_eq_some_iff.1 h
 obtain ⟨⟨tv,f,pre,post,T,T',rfl,hu',hpre,hpost,⟨hT1,hT2⟩,⟨hT3,hT4⟩,hret⟩,hlen⟩:=hr _ h1
 have h9:=hlen _ _ _ rfl
 have hg : ∀e∈as,e.2=false:=fun e he=>by simpa using List.all_eq_true.1 hg0 e he
 obtain ⟨Tn,h3,h4⟩:=Et (hk b c h2)
 rw [Az] at h4
 refine ⟨tv,f,_,rfl,?_⟩
 have hcel:Fg r p 0 (pre++T::post)=pre.map .val++(.ref r (p++[pre.length])::post.map .val):=by
  rw [X8,Su r p 0 pre hpre]
  simp only [Nat.zero_add,Fg,Akt,hT1,if_true]
  rw [Su r p _ post hpost]
 have hmask:Qg ms (Fg r p 0 (pre++T::post))=(Fg r p 0 (pre++T::post)).map (·,true):=Add fun i hi=>hm i (by
  have:(Fg r p 0 (pre++T::post)).length=(pre++T::post).length:=by rw [hcel];simp
  omega)
 rw [hmask,hcel]
 have hlook:Bl σ r (p++[pre.length])=some T:=by
  have:sub (p++[pre.length]) T0=some T:=Akn p hsub rfl (by simp [V.kids])
  simp [Bl,hL,this]
 have hlent:Kg σ (.ref r (p++[pre.length]))=some (r,p++[pre.length],T):=by simp [Kg,hlook,hT2]
 have hargs:Ch σ (as++(pre.map A.val++(A.ref r (p++[pre.length])::post.map A.val)).map (·,true)) 0=some (vs++(fzL pre++T::fzL post),[(vs.length+pre.length,r,p++[pre.length])],rs):=by
  have hal:=Yt ha
  refine Ag0 ha ?_
  rw [List.map_append]
  refine Ag0 (rs:=[]) (vs:=fzL pre) (Aa7 pre _) ?_
  simp only [List.map_cons,Ch]
  rw [Aa7 post]
  simp [hlent,hal]
 have hgiven:Gn (as++(pre.map A.val++(A.ref r (p++[pre.length])::post.map A.val)).map (·,true))=none:=by
  have key : ∀l:List (A×Bool),(∀e∈l,e.2=false∨(∃v,e.1 = .val v) ∨ ∃r p,e.1 = .ref r p)→Gn l=none:=by
   intro l
   induction l with
   | nil=>intro _;rfl
   | cons e l ih=>
     intro hl
     have h2:=ih fun e he=>hl e (by simp [he])
     have h1:=hl e (by simp)
     obtain ⟨a,io⟩:=e
     unfold Gn
     split
     ·rename_i e2;cases e2
     ·rename_i e2;cases e2;simp at h1
     ·rename_i e2;cases e2;simp at h1
     ·rename_i e2
      cases e2
      rw [h2]
  refine key _ fun e he=> ?_
  rcases List.mem_append.1 he with he | he
  ·exact .inl (hg e he)
  ·obtain ⟨a,ha',rfl⟩:=List.mem_map.1 he
   rcases List.mem_append.1 ha' with hh | hh
   ·obtain ⟨v,_,rfl⟩:=List.mem_map.1 hh
    exact .inr (.inl ⟨v,rfl⟩)
   ·rcases List.mem_cons.1 hh with rfl | hh
    ·exact .inr (.inr ⟨_,_,rfl⟩)
    ·obtain ⟨v,_,rfl⟩:=List.mem_map.1 hh
     exact .inr (.inl ⟨v,rfl⟩)
 unfold F0
 rw [hgiven]
 simp only [hargs]
 refine ⟨by simp only [Gt,hroots];rfl,Tri.mono hret ?_⟩
 rintro res outs ⟨rfl,ho⟩
 refine ⟨hn b,?_⟩
 rw [ho,hL]
 refine ⟨by simp [Dh,hT4],?_⟩
 have hset:(V.clov tv f (pre++T::post)).setKids pre.length [T']=some (uc c):=by
  rw [hu']
  simp only [V.setKids]
  rw [if_pos (by simp)]
  congr 2
  exact W3 pre [T] post [T'] rfl
 rw [Aj7 p hsub (by simp [V.kids]) hset,h3]
 show K (Au d _ (Fx r Tn ((p++[pre.length]).length+Ip T') σ))
 rw [Qe hT3]
 simpa using h4
end
abbrev Tgt:=Ex×List Nat×St
def atQ (t:Tgt):Ex→St→Prop:=fun ex σ=>ex=t.1∧restrict t.2.1 σ=t.2.2
def Gg {σ' τ:Type} (ks:List Nat) (st:σ'→St) (tg:τ→Tgt):σ' ⊕ τ→Ex→St→Prop
 | .inl s=>atQ (.normal,ks,st s)
 | .inr t=>atQ (tg t)
def Ex.isNormal:Ex→Bool
 | .normal=>true
 | .exit _=>false
 | .ret=>false
theorem LoopQ.o {σ' τ ρ:Type} {body:σ'→Option (σ' ⊕ τ)} {k:τ→Option ρ} {v:ρ} {s0:σ'} {P:Program} {c:ACode} {Q:Ex→St→Prop} {σ:St} (ks:List Nat) (st:σ'→St) (tg:τ→Tgt)
  (h:(A7 body s0).bind k=some v) (hb : ∀s o,body s=some o→vc P c (Gg ks st tg o) (st s)) (h0:restrict ks σ=st s0) (hn : ∀t,(tg t).1.isNormal=false) (ha : ∀t,k t=some v→Q (tg t).1 (tg t).2.2) :
  LoopQ P c Q σ:=by
 obtain ⟨t,h1,h2⟩:=Option.bind_eq_some_iff.1 h
 obtain ⟨n,hit⟩:=Kw.1 h1
 refine ⟨ks,n,?_⟩
 rw [h0]
 clear h0 h h1
 induction n generalizing s0 with
 | zero=>cases hit
 | succ n ih=>
   simp only [Ab9] at hit
   split at hit
   ·cases hit
   ·rename_i s' e
    refine Ni ?_ (Si (hb _ _ e))
    rintro ex τ' ⟨h3,h4⟩
    subst h3
    show V5 (awp P c) ks (less Q) n (restrict ks τ')
    rw [h4]
    exact ih hit
   ·rename_i t' e
    cases hit
    refine Ni ?_ (Si (hb _ _ e))
    rintro ex τ' ⟨h3,h4⟩
    have hne:=hn t
    rw [←h3] at hne
    have hq:=ha t h2
    rw [←h4,←h3] at hq
    cases ex with
    | normal=>cases hne
    | exit i=>exact .inr ⟨_,hq⟩
    | ret=>exact .inr ⟨_,hq⟩
theorem CutQ.o {τ ρ:Type} {e:Option τ} {k:τ→Option ρ} {v:ρ} {P:Program} {c:ACode} {Q:Ex→St→Prop} {σ:St} (tg:τ→Tgt)
  (h:e.bind k=some v) (hb : ∀t,e=some t→vc P c (atQ (tg t)) σ) (ha : ∀t,k t=some v→Q (tg t).1 (tg t).2.2):CutQ P c Q σ:=by
 obtain ⟨t,h1,h2⟩:=Option.bind_eq_some_iff.1 h
 refine ⟨?_⟩
 show awp P c (less Q) σ
 refine Ni ?_ (Si (hb t h1))
 rintro ex τ' ⟨h3,h4⟩
 have hq:=ha t h2
 rw [←h4,←h3] at hq
 exact .inr ⟨_,hq⟩
abbrev rDd (_:Unit):V:= .dead
instance:NoFz rDd:=⟨fun _=>rfl⟩
noncomputable def Aw (b s:ByteArray):Option (Unit×ByteArray):=ask (b.size+s.size≤LIM) (some ((),b++s))
noncomputable def Fs (b:ByteArray):Option (ByteArray×ByteArray):=ask (0<b.size) (some (b,b))
def Zd (n:Nat):List UInt8:=if n<10 then [48+UInt8.ofNat n] else [48+UInt8.ofNat (n/10),48+UInt8.ofNat (n%10)]
noncomputable def He (n:Int):Option ByteArray:=ask (0≤n∧n<100) (some ⟨(Zd n.toNat).toArray⟩)
end Go.Proofs.YtbnoclklhcbidaaDoor.Ax
