/-
 Plain facts, joined.
-/
import Derived.Test.YtaalgpkajkogkaaAx4
import Derived.Test.YtaalgpkajkogkaaGALL
namespace Go.Proofs.Ytaalgpkajkogkaa.Ax
open Go
theorem ip0 {c:Prop} {_h:Decidable c} (hc:c) {α:Type} {t e:α}:ite c t e=t:=if_pos hc
theorem in0 {c:Prop} {_h:Decidable c} (hc:¬c) {α:Type} {t e:α}:ite c t e=e:=if_neg hc
theorem obs0 {α β:Type} (a:α) (f:α->Option β):(some a).bind f=f a:=rfl
theorem tna0 (n:Nat):(n:Int).toNat=n:=rfl
theorem dtr0 {p:Prop} [Decidable p] (h:p):decide p=true:=decide_eq_true h
theorem dfa0 {p:Prop} [Decidable p] (h:¬p):decide p=false:=decide_eq_false h
abbrev BIG:Nat:=9223372036854775807
theorem Jr {α:Type} [Inhabited α] {xs:List α} {i:Nat} (h:i<xs.length):nth xs i=xs[i]:=by simp [nth,List.getD_eq_getElem?_getD,h]
theorem Ap {α:Type} [Inhabited α] {xs:List α} {i:Nat} (h:i<xs.length):nth xs i∈xs:=by rw [Jr h];exact List.getElem_mem h
theorem G5 {α β:Type} [Inhabited α] [Inhabited β] (f:α->β) {xs:List α} {i:Nat} (h:i<xs.length):nth (xs.map f) i=f (nth xs i):=by rw [Jr h,Jr (by simpa using h)];simp
theorem Ys {i n:Nat} (h:i<n):nth (List.range n) i=i:=by rw [Jr (by simpa using h)];simp
theorem A5i {α:Type} [Inhabited α] (xs:List α) (i j:Nat) (v:α) (h:j<xs.length):nth (xs.set i v) j=if i=j then v else nth xs j:=by rw [Jr (by simpa using h),Jr h,List.getElem_set]
theorem Ew {α:Type} [Inhabited α] {xs ys:List α} {i:Nat} (h:i<xs.length):nth (xs++ys) i=nth xs i:=by rw [Jr (by simp;omega),Jr h,List.getElem_append_left h]
theorem Ps {α:Type} [Inhabited α] {xs:List α} {y:α}:nth (xs++[y]) xs.length=y:=by rw [Jr (by simp)];simp
theorem Atk {α:Type} [Inhabited α] {xs ys:List α} (hl:xs.length=ys.length) (h : ∀i,i<xs.length->nth xs i=nth ys i):xs=ys:=by
 refine List.ext_getElem hl λi h1 h2=> ?_
 have:=h i h1
 rwa [Jr h1,Jr h2] at this
theorem Id {α:Type} [Inhabited α] {xs:List α} {x:α}:x∈xs ↔ ∃i,i<xs.length/\nth xs i=x:=by
 constructor
 ·intro h;obtain ⟨i,h1,h2⟩:=List.mem_iff_getElem.1 h;exact ⟨i,h1,by rw [Jr h1,h2]⟩
 ·rintro ⟨i,h1,rfl⟩;exact Ap h1
theorem Cp {α:Type} [Inhabited α] {xs:List α} {i:Nat} (h:i<xs.length):xs.take (i+1)=xs.take i++[nth xs i]:=by rw [List.take_add_one,Jr h];simp [h]
theorem Ar8 {α:Type} [Inhabited α] {xs:List α} {i:Nat} (h:i<xs.length):xs.drop i=nth xs i::xs.drop (i+1):=by rw [List.drop_eq_getElem_cons h,Jr h]
theorem Ata {α:Type} (xs:List α) (z v:α) {i n:Nat} (hi:i<n) (hl:xs.length=i):(xs++List.replicate (n-i) z).set i v=(xs++[v])++List.replicate (n-(i+1)) z:=by
 subst hl;rw [List.set_append_right _ _ (Nat.le_refl _),Nat.sub_self];have:n-xs.length=(n-(xs.length+1))+1:=by omega
 rw [this,List.replicate_succ,List.set_cons_zero];simp
section
variable {σ τ:Type} {body:σ->Option (σ ⊕ τ)}
theorem C2 {s s':σ} (h:body s=some (.inl s')):Aq body s=Aq body s':=by rw [Awi,h]
theorem Bp {s:σ} {t:τ} (h:body s=some (.inr t)):Aq body s=some t:=by rw [Awi,h]
theorem Bw (s:Nat->σ) (n:Nat) (t:τ) (h : ∀i,i<n->body (s i)=some (.inl (s (i+1)))) (he:body (s n)=some (.inr t)):Aq body (s 0)=some t:=by
 have key : ∀k,k<=n->Aq body (s 0)=Aq body (s k):=by
  intro k
  induction k with
  | zero=>intro _;rfl
  | succ k ih=>intro hk;rw [ih (by omega),C2 (h k (by omega))]
 rw [key n (Nat.le_refl _),Bp he]
theorem Aju (s:Nat->σ) (i0 n:Nat) (t:τ) (h0:i0<=n) (h : ∀i,i0<=i->i<n->body (s i)=some (.inl (s (i+1)))) (he:body (s n)=some (.inr t)):Aq body (s i0)=some t:=by have:=Bw (body:=body) (λk=>s (i0+k)) (n-i0) t (λi hi=>by simpa [Nat.add_assoc] using h (i0+i) (by omega) (by omega)) (by show body (s (i0+(n-i0)))=_;rw [show i0+(n-i0)=n by omega];exact he);simpa using this
theorem Fy (inv:σ->Prop) (μ:σ->Nat) (post:τ->Prop) (h : ∀s,inv s->(∃s',body s=some (.inl s')/\inv s'/\μ s'<μ s)\/(∃t,body s=some (.inr t)/\post t)) : ∀ {s:σ},inv s -> ∃t,Aq body s=some t/\post t:=by
 have key : ∀k s,μ s<=k->inv s -> ∃t,Aq body s=some t/\post t:=by
  intro k
  induction k with
  | zero=>
    intro s hk hs;rcases h s hs with ⟨s',h1,h2,h3⟩ | ⟨t,h1,h2⟩
    ·omega
    ·exact ⟨t,Bp h1,h2⟩
  | succ k ih=>
    intro s hk hs;rcases h s hs with ⟨s',h1,h2,h3⟩ | ⟨t,h1,h2⟩
    ·rw [C2 h1];exact ih s' (by omega) h2
    ·exact ⟨t,Bp h1,h2⟩
 intro s hs;exact key (μ s) s (Nat.le_refl _) hs
end
open Classical in
theorem Ayq {σ α β:Type} {body:σ->Option (σ ⊕ (α ⊕ β))} (s:Nat->σ) (i0 n:Nat) (bad:Nat->Prop) (a:α) (b:β) (hi0:i0<=n)
  (h : ∀i,i0<=i->i<n->¬bad i->body (s i)=some (.inl (s (i+1)))) (hb : ∀i,i0<=i->i<n->bad i->body (s i)=some (.inr (.inl a))) (he:body (s n)=some (.inr (.inr b))) :
  Aq body (s i0)=some (if ∃i,i0<=i/\i<n/\bad i then .inl a else .inr b):=by
 by_cases hx : ∃i,i0<=i/\i<n/\bad i
 ·rw [ip0 hx];obtain ⟨i,h1,h2,h3,h4⟩ : ∃i,i0<=i/\i<n/\bad i /\ ∀j,i0<=j->j<i->¬bad j:=by
   have key : ∀k i,i<=k->i0<=i->i<n->bad i -> ∃i,i0<=i/\i<n/\bad i /\ ∀j,i0<=j->j<i->¬bad j:=by
    intro k
    induction k with
    | zero=>intro i hk h1 h2 h3;exact ⟨i,h1,h2,h3,λj _ hj=>by omega⟩
    | succ k ih=>
      intro i hk h1 h2 h3;by_cases hy : ∃j,i0<=j/\j<i/\bad j
      ·obtain ⟨j,k1,k2,k3⟩:=hy;exact ih j (by omega) k1 (by omega) k3
      ·exact ⟨i,h1,h2,h3,λj k1 k2 k3=>hy ⟨j,k1,k2,k3⟩⟩
   obtain ⟨i,h1,h2,h3⟩:=hx;exact key i i (Nat.le_refl _) h1 h2 h3
  exact Aju s i0 i (.inl a) h1 (λj k1 k2=>h j k1 (by omega) (h4 j k1 k2)) (hb i h1 h2 h3)
 ·rw [in0 hx];exact Aju s i0 n (.inr b) hi0 (λj k1 k2=>h j k1 k2 λhc=>hx ⟨j,k1,k2,hc⟩) he
open Classical in
theorem Fo {σ α β:Type} {body:σ->Option (σ ⊕ (α ⊕ β))} (s:Nat->σ) (n:Nat) (bad:Nat->Prop) (a:α) (b:β)
  (h : ∀i,i<n->¬bad i->body (s i)=some (.inl (s (i+1)))) (hb : ∀i,i<n->bad i->body (s i)=some (.inr (.inl a))) (he:body (s n)=some (.inr (.inr b))) (i0:Nat) (hi0:i0<=n) :
  Aq body (s i0)=some (if ∃i,i0<=i/\i<n/\bad i then .inl a else .inr b):=
 Ayq s i0 n bad a b hi0 (λi _=>h i) (λi _=>hb i) he
open Classical in
theorem Ks {σ:Type} {body:σ->Option (σ ⊕ (Unit ⊕ Unit))} {s0:σ} {p:Prop} (h:Aq body s0=some (if p then .inl () else .inr ())) (x y:Bool) :
  ((Aq body s0).bind λt=>match t with | .inl _=>some x | .inr _=>some y)=some (if p then x else y):=by
 rw [h];by_cases hp:p<;>simp [hp]
open Classical
theorem Ba:LIM=4294967296:=rfl
theorem Kj {n:Nat} {p:Nat->Prop}:(¬ ∃i,0<=i/\i<n/\¬p i) ↔ ∀i,i<n->p i:=by
 constructor
 ·intro h i hi;exact Classical.byContradiction λhc=>h ⟨i,by omega,hi,hc⟩
 ·rintro h ⟨i,_,hi,hc⟩;exact hc (h i hi)
theorem R5 {p q:Prop} [Decidable p] [Decidable q] (h:¬p↔q):(if p then false else true)=decide q:=by
 by_cases hp:p
 ·rw [ip0 hp,dfa0];exact λhq=>h.2 hq hp
 ·rw [in0 hp,dtr0 (h.1 hp)]
theorem Rh (x a b:Int):Dx x a b=some (decide (a<=x/\x<=b)):=by
 unfold Dx;split
 ·rename_i h;congr 1;rw [decide_eq_decide];constructor
  ·intro h2;exact ⟨h,h2⟩
  ·exact λh2=>h2.2
 ·rename_i h;rw [dfa0];exact λh2=>h h2.1
def A6w (xs:List Int) (lo hi:Int):Prop := ∀i,i<xs.length->(lo<=nth xs i/\nth xs i<=hi)/\(0<i->nth xs (i-1)<nth xs i)
def Bz (xs:List Int) (n:Int):Prop := ∀x∈xs,0<=x/\x<n
theorem Y5 (xs:List Int) (n:Int) (h:xs.length<=LIM):Gf xs n=some (decide (Bz xs n)):=by
 unfold Gf;rw [Ba] at h;have:=Fo (body:=F4 xs n) (λi=>(i:Int)) xs.length (λi=>¬(0<=nth xs i/\nth xs i<n)) () () (λi hi hb=>by
  unfold F4;have hb:=Classical.not_not.1 hb;rw [ip0 (by omega),Ag (by omega)];simp only [tna0];rw [in0 (by omega),in0 (by omega),Ag (by omega)];rfl) (λi hi hb=>by
  unfold F4;rw [ip0 (by omega),Ag (by omega)];simp only [tna0];by_cases h0:nth xs i<0
  ·rw [ip0 h0]
  ·rw [in0 h0,ip0 (by omega)]) (by unfold F4;rw [in0 (by omega)]) 0 (by omega)
 refine (Ks this false true).trans (congrArg some (R5 ?_));rw [Kj];constructor
 ·intro h x hx;obtain ⟨i,hi,rfl⟩:=Id.1 hx;exact h i hi
 ·intro h i hi;exact h _ (Ap hi)
noncomputable def below (xss:List (List Int)) (y x:Nat):Bool:=decide ((y:Int)∈nth xss x)
def good (xss:List (List Int)):Prop:=xss.length<=10/\(∀x,x<xss.length->A6w (nth xss x) 0 (xss.length-1)/\(x:Int)∈nth xss x) /\
 ∀x,x<xss.length -> ∀i,i<(nth xss x).length->¬(nth (nth xss x) i≠x/\(x:Int)∈nth xss (nth (nth xss x) i).toNat) /\
   ∀z∈nth xss (nth (nth xss x) i).toNat,z∈nth xss x
def Vn (n:Nat) (p:Nat->Bool):List Int:=((List.range n).filter p).map λi:Nat=>(i:Int)
theorem Apc (n:Nat) (p:Nat->Bool):Vn (n+1) p=if p n then Vn n p++[(n:Int)] else Vn n p:=by unfold Vn;rw [List.range_succ,List.filter_append,List.map_append];by_cases h:p n<;>simp [h]
theorem Asj {n:Nat} {p:Nat->Bool} {x:Int}:x∈Vn n p ↔ ∃i:Nat,i<n/\p i=true/\x=i:=by
 unfold Vn;rw [List.mem_map];constructor
 ·rintro ⟨i,hi,rfl⟩;have:=List.mem_filter.1 hi;exact ⟨i,List.mem_range.1 this.1,this.2,rfl⟩
 ·rintro ⟨i,h1,h2,rfl⟩;exact ⟨i,List.mem_filter.2 ⟨List.mem_range.2 h1,h2⟩,rfl⟩
theorem A05 {n:Nat} {p:Nat->Bool}:Vn n p=[] ↔ ∀i,i<n->p i=false:=by
 constructor
 ·intro h i hi;cases hp:p i with
  | false=>rfl
  | true=> have:(i:Int)∈Vn n p:=Asj.2 ⟨i,hi,hp,rfl⟩;rw [h] at this;cases this
 ·intro h;refine List.eq_nil_iff_forall_not_mem.2 λx hx=> ?_
  obtain ⟨i,h1,h2,_⟩:=Asj.1 hx;rw [h i h1] at h2;cases h2
theorem At2 (n:Int):InI n ↔ -9223372036854775808<=n/\n<=9223372036854775807:=Iff.rfl
theorem Za (n:Nat) (xs:List Int) (h:xs.length<=LIM) (hn:n<=LIM):El n xs=some (decide (Bz xs n)):=by
 unfold El;rw [Ba] at h hn;have e:=Fo (body:=D5 n xs) (λi=>(i:Int)) xs.length (λi=>¬(0<=nth xs i/\nth xs i<n)) () () (λi hi hb=>by
  have hc:0<=nth xs i/\nth xs i<=n-1:=by have:=Classical.not_not.1 hb;omega
  unfold D5;simp (disch:=omega) only [Ag,ip0,if_true,At2,tna0,Int.natCast_add,Int.natCast_one,obs0,Rh,hc,and_self,decide_true]) (λi hi hb=>by
  have hc:¬(0<=nth xs i/\nth xs i<=n-1):=λhh=>hb (by omega)
  unfold D5;simp (disch:=omega) only [Ag,ip0,if_false,At2,tna0,obs0,Bool.false_eq_true,Rh,hc,decide_false]) (by
  unfold D5;simp (disch:=omega) only [Ag,ip0,in0,At2,tna0]) 0 (Nat.zero_le _)
 refine (Ks e false true).trans ?_;congr 1;refine R5 ?_;rw [Kj];constructor
 ·intro hh x hx;obtain ⟨i,hi,rfl⟩:=Id.1 hx;exact hh i hi
 ·intro hh i hi;exact hh _ (Ap hi)
theorem Ar1 {σ τ:Type} {body:σ->Option (σ ⊕ τ)} (s:Nat->σ) (n:Nat) (hit:Nat->Prop) (res:Nat->τ) (no:τ)
  (h : ∀i,i<n->¬hit i->body (s i)=some (.inl (s (i+1)))) (h2 : ∀i,i<n->hit i->body (s i)=some (.inr (res i))) (he:body (s n)=some (.inr no)) :
  (∃i,i<n/\hit i/\(∀j,j<i->¬hit j)/\Aq body (s 0)=some (res i))\/((∀i,i<n->¬hit i)/\Aq body (s 0)=some no):=by
 by_cases hx : ∃i,i<n/\hit i
 ·have key : ∀m i,i<=m->i<n->hit i -> ∃i,i<n/\hit i /\ ∀j,j<i->¬hit j:=by
   intro m
   induction m with
   | zero=>intro i h1 h2 h3;exact ⟨i,h2,h3,λj hj=>by omega⟩
   | succ m ih=>
     intro i h1 h2 h3;by_cases hy : ∃j,j<i/\hit j
     ·obtain ⟨j,h4,h5⟩:=hy;exact ih j (by omega) (by omega) h5
     ·exact ⟨i,h2,h3,λj hj hh=>hy ⟨j,hj,hh⟩⟩
  obtain ⟨i0,h1,h3⟩:=hx;obtain ⟨i,h4,h5,h6⟩:=key i0 i0 (Nat.le_refl _) h1 h3;exact .inl ⟨i,h4,h5,h6,Bw s i (res i) (λj hj=>h j (by omega) (h6 j hj)) (h2 i h4 h5)⟩
 ·have hn : ∀i,i<n->¬hit i:=λi hi hh=>hx ⟨i,hi,hh⟩
  exact .inr ⟨hn,Bw s n no (λj hj=>h j hj (hn j hj)) he⟩
structure Ord (n:Nat) (f:Nat->Nat->Bool):Prop where
 refl : ∀x,x<n->f x x=true
 A81 : ∀x y,x<n->y<n->f x y=true->f y x=true->x=y
 trans : ∀x y z,x<n->y<n->z<n->f x y=true->f y z=true->f x z=true
noncomputable def cov (n:Nat) (f:Nat->Nat->Bool) (x y:Nat):Bool:=decide ((x≠y/\f x y=true) /\ ∀z,z<n->¬((x≠z/\f x z=true)/\(z≠y/\f z y=true)))
section
noncomputable def irr (n:Nat) (f:Nat->Nat->Bool):List Int:=Vn n λy=>decide ((Vn n λx=>cov n f x y).length=1)
end
def LeO {α:Type} (a b:Option α):Prop := ∀v,a=some v->b=some v
theorem LeO.refl {α:Type} (a:Option α):LeO a a:=λ_ h=>h
theorem LeO.bind {α β:Type} {a b:Option α} {k l:α->Option β} (h:LeO a b) (hk : ∀x,LeO (k x) (l x)):LeO (a.bind k) (b.bind l):=by intro v e;obtain ⟨x,h1,h2⟩:=Option.bind_eq_some_iff.1 e;rw [h x h1];exact hk x v h2
theorem LeO.ask {α:Type} {p:Prop} {a b:Option α} (h:LeO a b):LeO (ask p a) (ask p b):=λv e=>P7.2 ⟨(P7.1 e).1,h v (P7.1 e).2⟩
theorem LeO.loop {σ τ:Type} {f g:σ->Option (σ ⊕ τ)} (h : ∀s,LeO (f s) (g s)) (s:σ):LeO (Aq f s) (Aq g s):=by
 intro v e;obtain ⟨n,hn⟩:=Rd.1 e;refine Rd.2 ⟨n,?_⟩;clear e
 induction n generalizing s with
 | zero=>cases hn
 | succ n ih=>
   simp only [Ami] at hn ⊢;cases hf:f s with
   | none=>rw [hf] at hn;cases hn
   | some o=>
     rw [hf] at hn;rw [h s o hf];cases o with
     | inl s'=>exact ih s' hn
     | inr t=>exact hn
def mx:Nat->(Nat->Nat)->Nat
 | 0,_=>0
 | n+1,f=>max (mx n f) (f n)
theorem A8q {n:Nat} {f:Nat->Nat} {i:Nat} (h:i<n):f i<=mx n f:=by
 induction n with
 | zero=>omega
 | succ n ih=>
   simp only [mx];by_cases e:i=n
   ·subst e;omega
   ·have:=ih (by omega);omega
theorem A8w {n m:Nat} {f:Nat->Nat} (h : ∀i,i<n->f i<=m):mx n f<=m:=by
 induction n with
 | zero=>simp [mx]
 | succ n ih=>
   simp only [mx];have:=ih λi hi=>h i (by omega)
   have:=h n (by omega);omega
theorem A37 {n:Nat} {f g:Nat->Nat} (h : ∀i,i<n->f i=g i):mx n f=mx n g:=by
 induction n with
 | zero=>rfl
 | succ n ih=>simp only [mx];rw [ih λi hi=>h i (by omega),h n (by omega)]
def sm:Nat->(Nat->Nat)->Nat
 | 0,_=>0
 | n+1,f=>sm n f+f n
theorem A6t {n:Nat} {f g:Nat->Nat} (h : ∀i,i<n->f i<=g i):sm n f<=sm n g:=by
 induction n with
 | zero=>exact Nat.le_refl _
 | succ n ih=>simp only [sm];have:=ih λi hi=>h i (by omega);have:=h n (by omega);omega
theorem A6m {n:Nat} {f g:Nat->Nat} (h : ∀i,i<n->f i<=g i) {j:Nat} (hj:j<n) (hl:f j<g j):sm n f<sm n g:=by
 induction n with
 | zero=>omega
 | succ n ih=>
   simp only [sm];by_cases e:j=n
   ·subst e;have:=A6t λi hi=>h i (Nat.lt_succ_of_lt hi);omega
   ·have:=ih (λi hi=>h i (by omega)) (by omega);have:=h n (by omega);omega
theorem A27 (n c:Nat):sm n (λ_=>c)=n*c:=by
 induction n with
 | zero=>simp [sm]
 | succ n ih=>simp only [sm,ih,Nat.succ_mul]
def many (n:Nat) (p:Nat->Bool):Nat:=sm n λi=>if p i then 1 else 0
theorem A5c (n:Nat) (p:Nat->Bool):many n p<=n:=by
 have:=A6t (n:=n) (f:=λi=>if p i then 1 else 0) (g:=λ_=>1) λi _=>by (try dsimp only);split<;>omega
 rw [A27] at this;unfold many;omega
structure Strict (n:Nat) (r:Nat->Nat->Bool):Prop where
 irr : ∀x,x<n->r x x=false
 tr : ∀x y z,x<n->y<n->z<n->r x y=true->r y z=true->r x z=true
def htn (n:Nat) (r:Nat->Nat->Bool):Nat->Nat->Nat
 | 0,_=>0
 | k+1,x=>mx n λy=>if r y x then htn n r k y+1 else 0
def ht (n:Nat) (r:Nat->Nat->Bool) (x:Nat):Nat:=htn n r n x
section
variable {n:Nat} {r:Nat->Nat->Bool}
theorem Azt (h:Strict n r) {x y:Nat} (hx:x<n) (hy:y<n) (hr:r y x=true):many n (λz=>r z y)<many n (λz=>r z x):=by
 refine A6m (λi hi=> ?_) hy ?_
 ·(try dsimp only)
  by_cases e:r i y=true
  ·rw [ip0 e,ip0 (h.tr i y x hi hy hx e hr)];exact Nat.le_refl _
  ·rw [in0 e];exact Nat.zero_le _
 ·(try dsimp only)
  rw [ip0 hr,in0 (by rw [h.irr y hy];simp)];exact Nat.zero_lt_one
theorem Ayy (h:Strict n r) (k:Nat) : ∀x,x<n->many n (λz=>r z x)<=k->htn n r k x=htn n r (k+1) x:=by
 induction k with
 | zero=>
   intro x hx hc;have:htn n r 1 x<=0:=A8w λy hy=>by
    (try dsimp only)
    rw [in0]
    ·exact Nat.le_refl _
    ·intro hr;have:=Azt h hx hy hr;omega
   have e:htn n r 0 x=0:=rfl;show htn n r 0 x=htn n r 1 x;omega
 | succ k ih=>
   intro x hx hc;show mx n _=mx n _;refine A37 λy hy=> ?_
   (try dsimp only)
   by_cases hr:r y x=true
   ·have:=Azt h hx hy hr;rw [ip0 hr,ip0 hr,ih y hy (by omega)]
   ·rw [in0 hr,in0 hr]
theorem A8h (h:Strict n r) {x:Nat} (hx:x<n):ht n r x=mx n λy=>if r y x then ht n r y+1 else 0:=Ayy h n x hx (A5c _ _)
theorem A8s (h:Strict n r) {x y:Nat} (hx:x<n) (hy:y<n) (hr:r y x=true):ht n r y<ht n r x:=by
 rw [A8h h hx];have:=A8q (n:=n) (f:=λy=>if r y x then ht n r y+1 else 0) hy
 (try dsimp only at this)
 rw [ip0 hr] at this;omega
end
structure LInv (n:Nat) (r:Nat->Nat->Bool) (l:List Int):Prop where
 len:l.length=n
 low : ∀x,x<n->0<=nth l x
 high : ∀x,x<n->nth l x<=ht n r x
def tot (n:Nat) (l:List Int):Nat:=sm n λi=>(nth l i).toNat
theorem LInv.set {n r l} (h:LInv n r l) (hs:Strict n r) {x y:Nat} (hx:x<n) (hy:y<n) (hr:r y x=true) (hl:nth l x<=nth l y):LInv n r (l.set x (nth l y+1))/\tot n l<tot n (l.set x (nth l y+1)):=by
 have e : ∀i,i<n->nth (l.set x (nth l y+1)) i=if x=i then nth l y+1 else nth l i:=λi hi=>A5i _ _ _ _ (by rw [h.len];exact hi)
 refine ⟨⟨by rw [List.length_set];exact h.len,λi hi=> ?_,λi hi=> ?_⟩,?_⟩
 ·rw [e i hi];split
  ·have:=h.low y hy;omega
  ·exact h.low i hi
 ·rw [e i hi];split
  ·rename_i e;subst e;have:=h.high y hy;have:=A8s hs hx hy hr;omega
  ·exact h.high i hi
 ·have hlow:=h.low y hy;refine A6m (λi hi=> ?_) hx ?_
  ·rw [e i hi];split
   ·rename_i e;subst e;omega
   ·exact Nat.le_refl _
  ·rw [e x hx,ip0 rfl];have:=h.low x hx;omega
section
theorem A3v (a b:Int):Nd a b=some (if a>b then a else b):=by unfold Nd;split<;>rfl
end
end Go.Proofs.Ytaalgpkajkogkaa.Ax
