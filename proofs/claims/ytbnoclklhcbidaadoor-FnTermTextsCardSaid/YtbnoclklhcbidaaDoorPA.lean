/-
 Plain facts, joined.
-/
import Derived.Test.YtbnoclklhcbidaaDoorAx4
import Derived.Test.YtbnoclklhcbidaaDoorGALL
namespace Go.Proofs.YtbnoclklhcbidaaDoor.Ax
open Go
abbrev BIG:Nat:=9223372036854775807
theorem Mc {α:Type} [Inhabited α] {xs:List α} {i:Nat} (h:i<xs.length):nth xs i=xs[i]:=by simp [nth,List.getD_eq_getElem?_getD,h]
theorem Cf {α:Type} [Inhabited α] {xs:List α} {i:Nat} (h:i<xs.length):nth xs i∈xs:=by rw [Mc h];exact List.getElem_mem h
theorem Sy {α β:Type} [Inhabited α] [Inhabited β] (f:α→β) {xs:List α} {i:Nat} (h:i<xs.length):nth (xs.map f) i=f (nth xs i):=by
 rw [Mc h,Mc (by simpa using h)];simp
theorem Ah7 {α:Type} [Inhabited α] (xs:List α) (i j:Nat) (v:α) (h:j<xs.length):nth (xs.set i v) j=if i=j then v else nth xs j:=by
 rw [Mc (by simpa using h),Mc h,List.getElem_set]
theorem Api {α:Type} [Inhabited α] {xs ys:List α} (hl:xs.length=ys.length) (h : ∀i,i<xs.length→nth xs i=nth ys i):xs=ys:=by
 refine List.ext_getElem hl fun i h1 h2=> ?_
 have:=h i h1
 rwa [Mc h1,Mc h2] at this
theorem Ow {α:Type} [Inhabited α] {xs:List α} {x:α}:x∈xs ↔ ∃i,i<xs.length∧nth xs i=x:=by
 constructor
 ·intro h
  obtain ⟨i,h1,h2⟩:=List.mem_iff_getElem.1 h
  exact ⟨i,h1,by rw [Mc h1,h2]⟩
 ·rintro ⟨i,h1,rfl⟩;exact Cf h1
theorem Jx {α:Type} [Inhabited α] {xs:List α} {i:Nat} (h:i<xs.length):xs.take (i+1)=xs.take i++[nth xs i]:=by
 rw [List.take_add_one,Mc h];simp [h]
theorem F6 {α:Type} [Inhabited α] {xs:List α} {i:Nat} (h:i<xs.length):xs.drop i=nth xs i::xs.drop (i+1):=by
 rw [List.drop_eq_getElem_cons h,Mc h]
section
variable {σ τ:Type} {body:σ→Option (σ ⊕ τ)}
theorem C1 {s s':σ} (h:body s=some (.inl s')):A7 body s=A7 body s':=by rw [Aj6,h]
theorem Bg {s:σ} {t:τ} (h:body s=some (.inr t)):A7 body s=some t:=by rw [Aj6,h]
theorem Np (s:Nat→σ) (n:Nat) (t:τ) (h : ∀i,i<n→body (s i)=some (.inl (s (i+1)))) (he:body (s n)=some (.inr t)):A7 body (s 0)=some t:=by
 have key : ∀k,k≤n→A7 body (s 0)=A7 body (s k):=by
  intro k
  induction k with
  | zero=>intro _;rfl
  | succ k ih=>intro hk;rw [ih (by omega),C1 (h k (by omega))]
 rw [key n (Nat.le_refl _),Bg he]
theorem Ahe (s:Nat→σ) (i0 n:Nat) (t:τ) (h0:i0≤n) (h : ∀i,i0≤i→i<n→body (s i)=some (.inl (s (i+1)))) (he:body (s n)=some (.inr t)):A7 body (s i0)=some t:=by
 have:=Np (body:=body) (fun k=>s (i0+k)) (n-i0) t (fun i hi=>by simpa [Nat.add_assoc] using h (i0+i) (by omega) (by omega)) (by
  show body (s (i0+(n-i0)))=_
  rw [show i0+(n-i0)=n by omega];exact he)
 simpa using this
theorem F8 (inv:σ→Prop) (μ:σ→Nat) (post:τ→Prop) (h : ∀s,inv s→(∃s',body s=some (.inl s')∧inv s'∧μ s'<μ s)∨(∃t,body s=some (.inr t)∧post t)) : ∀ {s:σ},inv s → ∃t,A7 body s=some t∧post t:=by
 have key : ∀k s,μ s≤k→inv s → ∃t,A7 body s=some t∧post t:=by
  intro k
  induction k with
  | zero=>
    intro s hk hs
    rcases h s hs with ⟨s',h1,h2,h3⟩ | ⟨t,h1,h2⟩
    ·omega
    ·exact ⟨t,Bg h1,h2⟩
  | succ k ih=>
    intro s hk hs
    rcases h s hs with ⟨s',h1,h2,h3⟩ | ⟨t,h1,h2⟩
    ·rw [C1 h1];exact ih s' (by omega) h2
    ·exact ⟨t,Bg h1,h2⟩
 intro s hs
 exact key (μ s) s (Nat.le_refl _) hs
end
open Classical in
theorem An3 {σ α β:Type} {body:σ→Option (σ ⊕ (α ⊕ β))} (s:Nat→σ) (i0 n:Nat) (bad:Nat→Prop) (a:α) (b:β) (hi0:i0≤n)
  (h : ∀i,i0≤i→i<n→¬bad i→body (s i)=some (.inl (s (i+1)))) (hb : ∀i,i0≤i→i<n→bad i→body (s i)=some (.inr (.inl a))) (he:body (s n)=some (.inr (.inr b))) :
  A7 body (s i0)=some (if ∃i,i0≤i∧i<n∧bad i then .inl a else .inr b):=by
 by_cases hx : ∃i,i0≤i∧i<n∧bad i
 ·rw [if_pos hx]
  obtain ⟨i,h1,h2,h3,h4⟩ : ∃i,i0≤i∧i<n∧bad i ∧ ∀j,i0≤j→j<i→¬bad j:=by
   have key : ∀k i,i≤k→i0≤i→i<n→bad i → ∃i,i0≤i∧i<n∧bad i ∧ ∀j,i0≤j→j<i→¬bad j:=by
    intro k
    induction k with
    | zero=>intro i hk h1 h2 h3;exact ⟨i,h1,h2,h3,fun j _ hj=>by omega⟩
    | succ k ih=>
      intro i hk h1 h2 h3
      by_cases hy : ∃j,i0≤j∧j<i∧bad j
      ·obtain ⟨j,k1,k2,k3⟩:=hy
       exact ih j (by omega) k1 (by omega) k3
      ·exact ⟨i,h1,h2,h3,fun j k1 k2 k3=>hy ⟨j,k1,k2,k3⟩⟩
   obtain ⟨i,h1,h2,h3⟩:=hx
   exact key i i (Nat.le_refl _) h1 h2 h3
  exact Ahe s i0 i (.inl a) h1 (fun j k1 k2=>h j k1 (by omega) (h4 j k1 k2)) (hb i h1 h2 h3)
 ·rw [if_neg hx]
  exact Ahe s i0 n (.inr b) hi0 (fun j k1 k2=>h j k1 k2 fun hc=>hx ⟨j,k1,k2,hc⟩) he
open Classical in
theorem H6 {σ α β:Type} {body:σ→Option (σ ⊕ (α ⊕ β))} (s:Nat→σ) (n:Nat) (bad:Nat→Prop) (a:α) (b:β)
  (h : ∀i,i<n→¬bad i→body (s i)=some (.inl (s (i+1)))) (hb : ∀i,i<n→bad i→body (s i)=some (.inr (.inl a))) (he:body (s n)=some (.inr (.inr b))) (i0:Nat) (hi0:i0≤n) :
  A7 body (s i0)=some (if ∃i,i0≤i∧i<n∧bad i then .inl a else .inr b):=
 An3 s i0 n bad a b hi0 (fun i _=>h i) (fun i _=>hb i) he
open Classical in
theorem Kx {σ:Type} {body:σ→Option (σ ⊕ (Unit ⊕ Unit))} {s0:σ} {p:Prop} (h:A7 body s0=some (if p then .inl () else .inr ())) (x y:Bool) :
  ((A7 body s0).bind fun t=>match t with | .inl _=>some x | .inr _=>some y)=some (if p then x else y):=by
 rw [h]
 by_cases hp:p<;>simp [hp]
end Go.Proofs.YtbnoclklhcbidaaDoor.Ax
namespace Go.Proofs.YtbnoclklhcbidaaDoor.Ax
open Go Classical
theorem Co:LIM=4294967296:=rfl
theorem Lz {n:Nat} {p:Nat→Prop}:(¬ ∃i,0≤i∧i<n∧¬p i) ↔ ∀i,i<n→p i:=by
 constructor
 ·intro h i hi;exact Classical.byContradiction fun hc=>h ⟨i,by omega,hi,hc⟩
 ·rintro h ⟨i,_,hi,hc⟩;exact hc (h i hi)
end Go.Proofs.YtbnoclklhcbidaaDoor.Ax
namespace Go.Proofs.YtbnoclklhcbidaaDoor.Ax
open Go Classical
theorem Q1 {p q:Prop} [Decidable p] [Decidable q] (h:¬p↔q):(if p then false else true)=decide q:=by
 by_cases hp:p
 ·rw [if_pos hp,decide_eq_false];exact fun hq=>h.2 hq hp
 ·rw [if_neg hp,decide_eq_true (h.1 hp)]
theorem Zh (x a b:Int):E1 x a b=some (decide (a≤x∧x≤b)):=by
 unfold E1
 split
 ·rename_i h;congr 1;rw [decide_eq_decide];constructor
  ·intro h2;exact ⟨h,h2⟩
  ·exact fun h2=>h2.2
 ·rename_i h;rw [decide_eq_false];exact fun h2=>h h2.1
def Av8 (xs:List Int) (lo hi:Int):Prop := ∀i,i<xs.length→(lo≤nth xs i∧nth xs i≤hi)∧(0<i→nth xs (i-1)<nth xs i)
def Mb (xs:List Int) (n:Int):Prop := ∀x∈xs,0≤x∧x<n
theorem Arf (xs:List Int) (n:Int) (h:xs.length≤LIM):Il xs n=some (decide (Mb xs n)):=by
 unfold Il
 rw [Co] at h
 have:=H6 (body:=Dz xs n) (fun i=>(i:Int)) xs.length (fun i=>¬(0≤nth xs i∧nth xs i<n)) () () (fun i hi hb=>by
  unfold Dz
  have hb:=Classical.not_not.1 hb
  rw [if_pos (by omega),Ae (by omega)]
  simp only [Int.toNat_natCast]
  rw [if_neg (by omega),if_neg (by omega),Ae (by unfold InI;omega)];rfl) (fun i hi hb=>by
  unfold Dz
  rw [if_pos (by omega),Ae (by omega)]
  simp only [Int.toNat_natCast]
  by_cases h0:nth xs i<0
  ·rw [if_pos h0]
  ·rw [if_neg h0,if_pos (by omega)]) (by unfold Dz;rw [if_neg (by omega)]) 0 (by omega)
 refine (Kx this false true).trans (congrArg some (Q1 ?_))
 rw [Lz]
 constructor
 ·intro h x hx;obtain ⟨i,hi,rfl⟩:=Ow.1 hx;exact h i hi
 ·intro h i hi;exact h _ (Cf hi)
end Go.Proofs.YtbnoclklhcbidaaDoor.Ax
namespace Go.Proofs.YtbnoclklhcbidaaDoor.Ax
open Go Classical
noncomputable def below (xss:List (List Int)) (y x:Nat):Bool:=decide ((y:Int)∈nth xss x)
def good (xss:List (List Int)):Prop:=xss.length≤10∧(∀x,x<xss.length→Av8 (nth xss x) 0 (xss.length-1)∧(x:Int)∈nth xss x) ∧
 ∀x,x<xss.length → ∀i,i<(nth xss x).length→¬(nth (nth xss x) i≠x∧(x:Int)∈nth xss (nth (nth xss x) i).toNat) ∧
   ∀z∈nth xss (nth (nth xss x) i).toNat,z∈nth xss x
end Go.Proofs.YtbnoclklhcbidaaDoor.Ax
namespace Go.Proofs.YtbnoclklhcbidaaDoor.Ax
open Go Classical
def read (p:SPoset):Prop:=p.Below.length≤BIG ∧ ∀r∈p.Below,r.length≤BIG
end Go.Proofs.YtbnoclklhcbidaaDoor.Ax
namespace Go.Proofs.YtbnoclklhcbidaaDoor.Ax
open Go Classical
def Od (n:Nat) (p:Nat→Bool):List Int:=((List.range n).filter p).map fun i:Nat=>(i:Int)
theorem Adi (n:Nat) (p:Nat→Bool):Od (n+1) p=if p n then Od n p++[(n:Int)] else Od n p:=by
 unfold Od
 rw [List.range_succ,List.filter_append,List.map_append]
 by_cases h:p n<;>simp [h]
theorem Agz {n:Nat} {p:Nat→Bool} {x:Int}:x∈Od n p ↔ ∃i:Nat,i<n∧p i=true∧x=i:=by
 unfold Od
 rw [List.mem_map]
 constructor
 ·rintro ⟨i,hi,rfl⟩
  have:=List.mem_filter.1 hi
  exact ⟨i,List.mem_range.1 this.1,this.2,rfl⟩
 ·rintro ⟨i,h1,h2,rfl⟩
  exact ⟨i,List.mem_filter.2 ⟨List.mem_range.2 h1,h2⟩,rfl⟩
theorem Aqc {n:Nat} {p:Nat→Bool}:Od n p=[] ↔ ∀i,i<n→p i=false:=by
 constructor
 ·intro h i hi
  cases hp:p i with
  | false=>rfl
  | true=>
    have:(i:Int)∈Od n p:=Agz.2 ⟨i,hi,hp,rfl⟩
    rw [h] at this;cases this
 ·intro h
  refine List.eq_nil_iff_forall_not_mem.2 fun x hx=> ?_
  obtain ⟨i,h1,h2,_⟩:=Agz.1 hx
  rw [h i h1] at h2;cases h2
end Go.Proofs.YtbnoclklhcbidaaDoor.Ax
namespace Go.Proofs.YtbnoclklhcbidaaDoor.Ax
open Go Classical
end Go.Proofs.YtbnoclklhcbidaaDoor.Ax
namespace Go.Proofs.YtbnoclklhcbidaaDoor.Ax
open Go Classical
structure Ord (n:Nat) (f:Nat→Nat→Bool):Prop where
 refl : ∀x,x<n→f x x=true
 Aya : ∀x y,x<n→y<n→f x y=true→f y x=true→x=y
 trans : ∀x y z,x<n→y<n→z<n→f x y=true→f y z=true→f x z=true
noncomputable def cov (n:Nat) (f:Nat→Nat→Bool) (x y:Nat):Bool:=decide ((x≠y∧f x y=true) ∧ ∀z,z<n→¬((x≠z∧f x z=true)∧(z≠y∧f z y=true)))
end Go.Proofs.YtbnoclklhcbidaaDoor.Ax
namespace Go.Proofs.YtbnoclklhcbidaaDoor.Ax
open Go Classical
end Go.Proofs.YtbnoclklhcbidaaDoor.Ax
namespace Go.Proofs.YtbnoclklhcbidaaDoor.Ax
open Go Classical
end Go.Proofs.YtbnoclklhcbidaaDoor.Ax
namespace Go.Proofs.YtbnoclklhcbidaaDoor.Ax
open Go Classical
end Go.Proofs.YtbnoclklhcbidaaDoor.Ax
namespace Go.Proofs.YtbnoclklhcbidaaDoor.Ax
open Go Classical
section
variable {p:SPoset}
noncomputable def irr (n:Nat) (f:Nat→Nat→Bool):List Int:=Od n fun y=>decide ((Od n fun x=>cov n f x y).length=1)
end
end Go.Proofs.YtbnoclklhcbidaaDoor.Ax
namespace Go.Proofs.YtbnoclklhcbidaaDoor.Ax
open Go Classical
end Go.Proofs.YtbnoclklhcbidaaDoor.Ax
namespace Go.Proofs.YtbnoclklhcbidaaDoor.Ax
open Go Classical
def LeO {α:Type} (a b:Option α):Prop := ∀v,a=some v→b=some v
theorem LeO.refl {α:Type} (a:Option α):LeO a a:=fun _ h=>h
theorem LeO.bind {α β:Type} {a b:Option α} {k l:α→Option β} (h:LeO a b) (hk : ∀x,LeO (k x) (l x)):LeO (a.bind k) (b.bind l):=by
 intro v e
 obtain ⟨x,h1,h2⟩:=Option.bind_eq_some_iff.1 e
 rw [h x h1];exact hk x v h2
theorem LeO.ite {α:Type} {p:Prop} [Decidable p] {a b c d:Option α} (h1:LeO a c) (h2:LeO b d):LeO (if p then a else b) (if p then c else d):=by
 by_cases h:p
 ·rw [if_pos h,if_pos h];exact h1
 ·rw [if_neg h,if_neg h];exact h2
theorem LeO.ask {α:Type} {p:Prop} {a b:Option α} (h:LeO a b):LeO (ask p a) (ask p b):=fun v e=>Fd.2 ⟨(Fd.1 e).1,h v (Fd.1 e).2⟩
theorem LeO.loop {σ τ:Type} {f g:σ→Option (σ ⊕ τ)} (h : ∀s,LeO (f s) (g s)) (s:σ):LeO (A7 f s) (A7 g s):=by
 intro v e
 obtain ⟨n,hn⟩:=Kw.1 e
 refine Kw.2 ⟨n,?_⟩
 clear e
 induction n generalizing s with
 | zero=>cases hn
 | succ n ih=>
   simp only [Ab9] at hn ⊢
   cases hf:f s with
   | none=>rw [hf] at hn;cases hn
   | some o=>
     rw [hf] at hn
     rw [h s o hf]
     cases o with
     | inl s'=>exact ih s' hn
     | inr t=>exact hn
def mx:Nat→(Nat→Nat)→Nat
 | 0,_=>0
 | n+1,f=>max (mx n f) (f n)
theorem Ax2 {n:Nat} {f:Nat→Nat} {i:Nat} (h:i<n):f i≤mx n f:=by
 induction n with
 | zero=>omega
 | succ n ih=>
   simp only [mx]
   by_cases e:i=n
   ·subst e;omega
   ·have:=ih (by omega);omega
theorem Ax5 {n m:Nat} {f:Nat→Nat} (h : ∀i,i<n→f i≤m):mx n f≤m:=by
 induction n with
 | zero=>simp [mx]
 | succ n ih=>
   simp only [mx]
   have:=ih fun i hi=>h i (by omega)
   have:=h n (by omega)
   omega
theorem Asf {n:Nat} {f g:Nat→Nat} (h : ∀i,i<n→f i=g i):mx n f=mx n g:=by
 induction n with
 | zero=>rfl
 | succ n ih=>simp only [mx];rw [ih fun i hi=>h i (by omega),h n (by omega)]
def sm:Nat→(Nat→Nat)→Nat
 | 0,_=>0
 | n+1,f=>sm n f+f n
theorem Avt {n:Nat} {f g:Nat→Nat} (h : ∀i,i<n→f i≤g i):sm n f≤sm n g:=by
 induction n with
 | zero=>exact Nat.le_refl _
 | succ n ih=>simp only [sm];have:=ih fun i hi=>h i (by omega);have:=h n (by omega);omega
theorem Avn {n:Nat} {f g:Nat→Nat} (h : ∀i,i<n→f i≤g i) {j:Nat} (hj:j<n) (hl:f j<g j):sm n f<sm n g:=by
 induction n with
 | zero=>omega
 | succ n ih=>
   simp only [sm]
   by_cases e:j=n
   ·subst e;have:=Avt fun i hi=>h i (Nat.lt_succ_of_lt hi);omega
   ·have:=ih (fun i hi=>h i (by omega)) (by omega);have:=h n (by omega);omega
theorem As0 (n c:Nat):sm n (fun _=>c)=n*c:=by
 induction n with
 | zero=>simp [sm]
 | succ n ih=>simp only [sm,ih,Nat.succ_mul]
def many (n:Nat) (p:Nat→Bool):Nat:=sm n fun i=>if p i then 1 else 0
theorem Atu (n:Nat) (p:Nat→Bool):many n p≤n:=by
 have:=Avt (n:=n) (f:=fun i=>if p i then 1 else 0) (g:=fun _=>1) fun i _=>by (try dsimp only);split<;>omega
 rw [As0] at this
 unfold many;omega
structure Strict (n:Nat) (r:Nat→Nat→Bool):Prop where
 irr : ∀x,x<n→r x x=false
 tr : ∀x y z,x<n→y<n→z<n→r x y=true→r y z=true→r x z=true
def htn (n:Nat) (r:Nat→Nat→Bool):Nat→Nat→Nat
 | 0,_=>0
 | k+1,x=>mx n fun y=>if r y x then htn n r k y+1 else 0
def ht (n:Nat) (r:Nat→Nat→Bool) (x:Nat):Nat:=htn n r n x
section
variable {n:Nat} {r:Nat→Nat→Bool}
theorem Aor (h:Strict n r) {x y:Nat} (hx:x<n) (hy:y<n) (hr:r y x=true):many n (fun z=>r z y)<many n (fun z=>r z x):=by
 refine Avn (fun i hi=> ?_) hy ?_
 ·(try dsimp only)
  by_cases e:r i y=true
  ·rw [if_pos e,if_pos (h.tr i y x hi hy hx e hr)];exact Nat.le_refl _
  ·rw [if_neg e];exact Nat.zero_le _
 ·(try dsimp only)
  rw [if_pos hr,if_neg (by rw [h.irr y hy];simp)];exact Nat.zero_lt_one
theorem Amr (h:Strict n r) (k:Nat) : ∀x,x<n→many n (fun z=>r z x)≤k→htn n r k x=htn n r (k+1) x:=by
 induction k with
 | zero=>
   intro x hx hc
   have:htn n r 1 x≤0:=Ax5 fun y hy=>by
    (try dsimp only)
    rw [if_neg]
    ·exact Nat.le_refl _
    ·intro hr
     have:=Aor h hx hy hr
     omega
   have e:htn n r 0 x=0:=rfl
   show htn n r 0 x=htn n r 1 x
   omega
 | succ k ih=>
   intro x hx hc
   show mx n _=mx n _
   refine Asf fun y hy=> ?_
   (try dsimp only)
   by_cases hr:r y x=true
   ·have:=Aor h hx hy hr
    rw [if_pos hr,if_pos hr,ih y hy (by omega)]
   ·rw [if_neg hr,if_neg hr]
theorem Axq (h:Strict n r) {x:Nat} (hx:x<n):ht n r x=mx n fun y=>if r y x then ht n r y+1 else 0:=Amr h n x hx (Atu _ _)
theorem Ax4 (h:Strict n r) {x y:Nat} (hx:x<n) (hy:y<n) (hr:r y x=true):ht n r y<ht n r x:=by
 rw [Axq h hx]
 have:=Ax2 (n:=n) (f:=fun y=>if r y x then ht n r y+1 else 0) hy
 (try dsimp only at this)
 rw [if_pos hr] at this
 omega
end
structure LInv (n:Nat) (r:Nat→Nat→Bool) (l:List Int):Prop where
 len:l.length=n
 low : ∀x,x<n→0≤nth l x
 high : ∀x,x<n→nth l x≤ht n r x
def tot (n:Nat) (l:List Int):Nat:=sm n fun i=>(nth l i).toNat
theorem LInv.set {n r l} (h:LInv n r l) (hs:Strict n r) {x y:Nat} (hx:x<n) (hy:y<n) (hr:r y x=true) (hl:nth l x≤nth l y):LInv n r (l.set x (nth l y+1))∧tot n l<tot n (l.set x (nth l y+1)):=by
 have e : ∀i,i<n→nth (l.set x (nth l y+1)) i=if x=i then nth l y+1 else nth l i:=fun i hi=>Ah7 _ _ _ _ (by rw [h.len];exact hi)
 refine ⟨⟨by rw [List.length_set];exact h.len,fun i hi=> ?_,fun i hi=> ?_⟩,?_⟩
 ·rw [e i hi]
  split
  ·have:=h.low y hy;omega
  ·exact h.low i hi
 ·rw [e i hi]
  split
  ·rename_i e;subst e
   have:=h.high y hy
   have:=Ax4 hs hx hy hr
   omega
  ·exact h.high i hi
 ·have hlow:=h.low y hy
  refine Avn (fun i hi=> ?_) hx ?_
  ·rw [e i hi]
   split
   ·rename_i e;subst e;omega
   ·exact Nat.le_refl _
  ·rw [e x hx,if_pos rfl];have:=h.low x hx;omega
end Go.Proofs.YtbnoclklhcbidaaDoor.Ax
namespace Go.Proofs.YtbnoclklhcbidaaDoor.Ax
open Go Classical
end Go.Proofs.YtbnoclklhcbidaaDoor.Ax
