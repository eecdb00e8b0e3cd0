/-
 Plain facts, joined.
-/
import Derived.Test.YtjcekpmojnnmbaaGreatAx4
import Derived.Test.YtjcekpmojnnmbaaGreatGALL
namespace Go.Proofs.YtjcekpmojnnmbaaGreat.Ax
open Go
abbrev BIG:Nat:=9223372036854775807
theorem Ea {α:Type} [Inhabited α] {xs:List α} {i:Nat} (h:i<xs.length):nth xs i=xs[i]:=by simp [nth,List.getD_eq_getElem?_getD,h]
theorem Av {α:Type} [Inhabited α] {xs:List α} {i:Nat} (h:i<xs.length):nth xs i∈xs:=by rw [Ea h];exact List.getElem_mem h
theorem Qz {α β:Type} [Inhabited α] [Inhabited β] (f:α→β) {xs:List α} {i:Nat} (h:i<xs.length):nth (xs.map f) i=f (nth xs i):=by
 rw [Ea h,Ea (by simpa using h)];simp
theorem Alk {α:Type} [Inhabited α] {n i:Nat} (x:α) (h:i<n):nth (List.replicate n x) i=x:=by rw [Ea (by simpa using h)];simp
theorem A0v {α:Type} [Inhabited α] (xs:List α) (i j:Nat) (v:α) (h:j<xs.length):nth (xs.set i v) j=if i=j then v else nth xs j:=by
 rw [Ea (by simpa using h),Ea h,List.getElem_set]
theorem V8 {α:Type} [Inhabited α] {xs ys:List α} {i:Nat} (h:i<xs.length):nth (xs++ys) i=nth xs i:=by
 rw [Ea (by simp;omega),Ea h,List.getElem_append_left h]
theorem Akb {α:Type} [Inhabited α] {xs:List α} {y:α}:nth (xs++[y]) xs.length=y:=by
 rw [Ea (by simp)];simp
theorem Pt {α:Type} [Inhabited α] {xs ys:List α} (hl:xs.length=ys.length) (h : ∀i,i<xs.length→nth xs i=nth ys i):xs=ys:=by
 refine List.ext_getElem hl fun i h1 h2=> ?_
 have:=h i h1
 rwa [Ea h1,Ea h2] at this
theorem Hl {α:Type} [Inhabited α] {xs:List α} {x:α}:x∈xs ↔ ∃i,i<xs.length∧nth xs i=x:=by
 constructor
 ·intro h
  obtain ⟨i,h1,h2⟩:=List.mem_iff_getElem.1 h
  exact ⟨i,h1,by rw [Ea h1,h2]⟩
 ·rintro ⟨i,h1,rfl⟩;exact Av h1
theorem Cx {α:Type} [Inhabited α] {xs:List α} {i:Nat} (h:i<xs.length):xs.take (i+1)=xs.take i++[nth xs i]:=by
 rw [List.take_add_one,Ea h];simp [h]
theorem A1f {α:Type} (xs:List α) (z v:α) {i n:Nat} (hi:i<n) (hl:xs.length=i):(xs++List.replicate (n-i) z).set i v=(xs++[v])++List.replicate (n-(i+1)) z:=by
 subst hl
 rw [List.set_append_right _ _ (Nat.le_refl _),Nat.sub_self]
 have:n-xs.length=(n-(xs.length+1))+1:=by omega
 rw [this,List.replicate_succ,List.set_cons_zero]
 simp
section
variable {σ τ:Type} {body:σ→Option (σ ⊕ τ)}
theorem Fl {s s':σ} (h:body s=some (.inl s')):Ao body s=Ao body s':=by rw [Are,h]
theorem E1 {s:σ} {t:τ} (h:body s=some (.inr t)):Ao body s=some t:=by rw [Are,h]
theorem Bk (s:Nat→σ) (n:Nat) (t:τ) (h : ∀i,i<n→body (s i)=some (.inl (s (i+1)))) (he:body (s n)=some (.inr t)):Ao body (s 0)=some t:=by
 have key : ∀k,k≤n→Ao body (s 0)=Ao body (s k):=by
  intro k
  induction k with
  | zero=>intro _;rfl
  | succ k ih=>intro hk;rw [ih (by omega),Fl (h k (by omega))]
 rw [key n (Nat.le_refl _),E1 he]
theorem And (s:Nat→σ) (i0 n:Nat) (t:τ) (h0:i0≤n) (h : ∀i,i0≤i→i<n→body (s i)=some (.inl (s (i+1)))) (he:body (s n)=some (.inr t)):Ao body (s i0)=some t:=by
 have:=Bk (body:=body) (fun k=>s (i0+k)) (n-i0) t (fun i hi=>by simpa [Nat.add_assoc] using h (i0+i) (by omega) (by omega)) (by
  show body (s (i0+(n-i0)))=_
  rw [show i0+(n-i0)=n by omega];exact he)
 simpa using this
theorem D5 (inv:σ→Prop) (μ:σ→Nat) (post:τ→Prop) (h : ∀s,inv s→(∃s',body s=some (.inl s')∧inv s'∧μ s'<μ s)∨(∃t,body s=some (.inr t)∧post t)) : ∀ {s:σ},inv s → ∃t,Ao body s=some t∧post t:=by
 have key : ∀k s,μ s≤k→inv s → ∃t,Ao body s=some t∧post t:=by
  intro k
  induction k with
  | zero=>
    intro s hk hs
    rcases h s hs with ⟨s',h1,h2,h3⟩ | ⟨t,h1,h2⟩
    ·omega
    ·exact ⟨t,E1 h1,h2⟩
  | succ k ih=>
    intro s hk hs
    rcases h s hs with ⟨s',h1,h2,h3⟩ | ⟨t,h1,h2⟩
    ·rw [Fl h1];exact ih s' (by omega) h2
    ·exact ⟨t,E1 h1,h2⟩
 intro s hs
 exact key (μ s) s (Nat.le_refl _) hs
end
open Classical in
theorem Asr {σ α β:Type} {body:σ→Option (σ ⊕ (α ⊕ β))} (s:Nat→σ) (i0 n:Nat) (bad:Nat→Prop) (a:α) (b:β) (hi0:i0≤n)
  (h : ∀i,i0≤i→i<n→¬bad i→body (s i)=some (.inl (s (i+1)))) (hb : ∀i,i0≤i→i<n→bad i→body (s i)=some (.inr (.inl a))) (he:body (s n)=some (.inr (.inr b))) :
  Ao body (s i0)=some (if ∃i,i0≤i∧i<n∧bad i then .inl a else .inr b):=by
 by_cases hx : ∃i,i0≤i∧i<n∧bad i
 ·rw [if_pos hx]
  obtain ⟨i,h1,h2,h3,h4⟩ : ∃i,i0≤i∧i<n∧bad i ∧ ∀j,i0≤j→j<i→¬bad j:=by
   have key : ∀k i,i≤k→i0≤i→i<n→bad i → ∃i,i0≤i∧i<n∧bad i ∧ ∀j,i0≤j→j<i→¬bad j:=by
    intro k
    induction k with
    | zero=>intro i hk h1 h2 h3;exact ⟨i,h1,h2,h3,fun j _ hj=>by omega⟩
    | succ k ih=>
      intro i hk h1 h2 h3
      by_cases hy : ∃j,i0≤j∧j<i∧bad j
      ·obtain ⟨j,k1,k2,k3⟩:=hy
       exact ih j (by omega) k1 (by omega) k3
      ·exact ⟨i,h1,h2,h3,fun j k1 k2 k3=>hy ⟨j,k1,k2,k3⟩⟩
   obtain ⟨i,h1,h2,h3⟩:=hx
   exact key i i (Nat.le_refl _) h1 h2 h3
  exact And s i0 i (.inl a) h1 (fun j k1 k2=>h j k1 (by omega) (h4 j k1 k2)) (hb i h1 h2 h3)
 ·rw [if_neg hx]
  exact And s i0 n (.inr b) hi0 (fun j k1 k2=>h j k1 k2 fun hc=>hx ⟨j,k1,k2,hc⟩) he
open Classical in
theorem M1 {σ α β:Type} {body:σ→Option (σ ⊕ (α ⊕ β))} (s:Nat→σ) (n:Nat) (bad:Nat→Prop) (a:α) (b:β)
  (h : ∀i,i<n→¬bad i→body (s i)=some (.inl (s (i+1)))) (hb : ∀i,i<n→bad i→body (s i)=some (.inr (.inl a))) (he:body (s n)=some (.inr (.inr b))) (i0:Nat) (hi0:i0≤n) :
  Ao body (s i0)=some (if ∃i,i0≤i∧i<n∧bad i then .inl a else .inr b):=
 Asr s i0 n bad a b hi0 (fun i _=>h i) (fun i _=>hb i) he
open Classical in
theorem Ug {σ:Type} {body:σ→Option (σ ⊕ (Unit ⊕ Unit))} {s0:σ} {p:Prop} (h:Ao body s0=some (if p then .inl () else .inr ())) (x y:Bool) :
  ((Ao body s0).bind fun t=>match t with | .inl _=>some x | .inr _=>some y)=some (if p then x else y):=by
 rw [h]
 by_cases hp:p<;>simp [hp]
end Go.Proofs.YtjcekpmojnnmbaaGreat.Ax
namespace Go.Proofs.YtjcekpmojnnmbaaGreat.Ax
open Go Classical
theorem Bd:LIM=4294967296:=rfl
theorem Ty {n:Nat} {p:Nat→Prop}:(¬ ∃i,0≤i∧i<n∧¬p i) ↔ ∀i,i<n→p i:=by
 constructor
 ·intro h i hi;exact Classical.byContradiction fun hc=>h ⟨i,by omega,hi,hc⟩
 ·rintro h ⟨i,_,hi,hc⟩;exact hc (h i hi)
end Go.Proofs.YtjcekpmojnnmbaaGreat.Ax
namespace Go.Proofs.YtjcekpmojnnmbaaGreat.Ax
open Go Classical
theorem Aor {p q:Prop} [Decidable p] [Decidable q] (h:¬p↔q):(if p then false else true)=decide q:=by
 by_cases hp:p
 ·rw [if_pos hp,decide_eq_false];exact fun hq=>h.2 hq hp
 ·rw [if_neg hp,decide_eq_true (h.1 hp)]
theorem A0d {p q:Prop} [Decidable p] [Decidable q] (h:p↔q):(if p then true else false)=decide q:=by
 by_cases hp:p
 ·rw [if_pos hp,decide_eq_true (h.1 hp)]
 ·rw [if_neg hp,decide_eq_false];exact fun hq=>hp (h.2 hq)
theorem Aa2 (x a b:Int):Fb x a b=some (decide (a≤x∧x≤b)):=by
 unfold Fb
 split
 ·rename_i h;congr 1;rw [decide_eq_decide];constructor
  ·intro h2;exact ⟨h,h2⟩
  ·exact fun h2=>h2.2
 ·rename_i h;rw [decide_eq_false];exact fun h2=>h h2.1
def A2h (xs:List Int) (lo hi:Int):Prop := ∀i,i<xs.length→(lo≤nth xs i∧nth xs i≤hi)∧(0<i→nth xs (i-1)<nth xs i)
theorem A0c (xs:List Int) (n:Int) (h:xs.length≤LIM):Ls xs n=some (decide (n∈xs)):=by
 unfold Ls
 rw [Bd] at h
 have:=M1 (body:=E0 xs n) (fun i=>(i:Int)) xs.length (fun i=>nth xs i=n) () () (fun i hi hb=>by
  unfold E0
  rw [if_pos (by omega),Af (by omega)]
  simp only [Int.toNat_natCast]
  rw [if_neg hb,Af (by unfold InI;omega)];rfl) (fun i hi hb=>by
  unfold E0
  rw [if_pos (by omega),Af (by omega)]
  simp only [Int.toNat_natCast]
  rw [if_pos hb]) (by unfold E0;rw [if_neg (by omega)]) 0 (by omega)
 refine (Ug this true false).trans (congrArg some (A0d ?_))
 rw [Hl]
 constructor
 ·rintro ⟨i,_,h1,h2⟩;exact ⟨i,h1,h2⟩
 ·rintro ⟨i,h1,h2⟩;exact ⟨i,by omega,h1,h2⟩
def Ba (xs:List Int) (n:Int):Prop := ∀x∈xs,0≤x∧x<n
theorem Ahw (xs:List Int) (n:Int) (h:xs.length≤LIM):Gl xs n=some (decide (Ba xs n)):=by
 unfold Gl
 rw [Bd] at h
 have:=M1 (body:=Ed xs n) (fun i=>(i:Int)) xs.length (fun i=>¬(0≤nth xs i∧nth xs i<n)) () () (fun i hi hb=>by
  unfold Ed
  have hb:=Classical.not_not.1 hb
  rw [if_pos (by omega),Af (by omega)]
  simp only [Int.toNat_natCast]
  rw [if_neg (by omega),if_neg (by omega),Af (by unfold InI;omega)];rfl) (fun i hi hb=>by
  unfold Ed
  rw [if_pos (by omega),Af (by omega)]
  simp only [Int.toNat_natCast]
  by_cases h0:nth xs i<0
  ·rw [if_pos h0]
  ·rw [if_neg h0,if_pos (by omega)]) (by unfold Ed;rw [if_neg (by omega)]) 0 (by omega)
 refine (Ug this false true).trans (congrArg some (Aor ?_))
 rw [Ty]
 constructor
 ·intro h x hx;obtain ⟨i,hi,rfl⟩:=Hl.1 hx;exact h i hi
 ·intro h i hi;exact h _ (Av hi)
end Go.Proofs.YtjcekpmojnnmbaaGreat.Ax
namespace Go.Proofs.YtjcekpmojnnmbaaGreat.Ax
open Go Classical
noncomputable def below (xss:List (List Int)) (y x:Nat):Bool:=decide ((y:Int)∈nth xss x)
def good (xss:List (List Int)):Prop:=xss.length≤10∧(∀x,x<xss.length→A2h (nth xss x) 0 (xss.length-1)∧(x:Int)∈nth xss x) ∧
 ∀x,x<xss.length → ∀i,i<(nth xss x).length→¬(nth (nth xss x) i≠x∧(x:Int)∈nth xss (nth (nth xss x) i).toNat) ∧
   ∀z∈nth xss (nth (nth xss x) i).toNat,z∈nth xss x
end Go.Proofs.YtjcekpmojnnmbaaGreat.Ax
namespace Go.Proofs.YtjcekpmojnnmbaaGreat.Ax
open Go Classical
end Go.Proofs.YtjcekpmojnnmbaaGreat.Ax
namespace Go.Proofs.YtjcekpmojnnmbaaGreat.Ax
open Go Classical
def Qd (n:Nat) (p:Nat→Bool):List Int:=((List.range n).filter p).map fun i:Nat=>(i:Int)
theorem Ah4 (n:Nat) (p:Nat→Bool):Qd (n+1) p=if p n then Qd n p++[(n:Int)] else Qd n p:=by
 unfold Qd
 rw [List.range_succ,List.filter_append,List.map_append]
 by_cases h:p n<;>simp [h]
theorem Amr {n:Nat} {p:Nat→Bool} {x:Int}:x∈Qd n p ↔ ∃i:Nat,i<n∧p i=true∧x=i:=by
 unfold Qd
 rw [List.mem_map]
 constructor
 ·rintro ⟨i,hi,rfl⟩
  have:=List.mem_filter.1 hi
  exact ⟨i,List.mem_range.1 this.1,this.2,rfl⟩
 ·rintro ⟨i,h1,h2,rfl⟩
  exact ⟨i,List.mem_filter.2 ⟨List.mem_range.2 h1,h2⟩,rfl⟩
theorem Awm {n:Nat} {p:Nat→Bool}:Qd n p=[] ↔ ∀i,i<n→p i=false:=by
 constructor
 ·intro h i hi
  cases hp:p i with
  | false=>rfl
  | true=>
    have:(i:Int)∈Qd n p:=Amr.2 ⟨i,hi,hp,rfl⟩
    rw [h] at this;cases this
 ·intro h
  refine List.eq_nil_iff_forall_not_mem.2 fun x hx=> ?_
  obtain ⟨i,h1,h2,_⟩:=Amr.1 hx
  rw [h i h1] at h2;cases h2
end Go.Proofs.YtjcekpmojnnmbaaGreat.Ax
namespace Go.Proofs.YtjcekpmojnnmbaaGreat.Ax
open Go Classical
theorem Ao4 (n:Int):InI n ↔ -9223372036854775808≤n∧n≤9223372036854775807:=Iff.rfl
theorem Abx (n:Nat) (xs:List Int) (h:xs.length≤LIM) (hn:n≤LIM):Eo n xs=some (decide (Ba xs n)):=by
 unfold Eo
 rw [Bd] at h hn
 have e:=M1 (body:=Cu n xs) (fun i=>(i:Int)) xs.length (fun i=>¬(0≤nth xs i∧nth xs i<n)) () () (fun i hi hb=>by
  have hc:0≤nth xs i∧nth xs i≤n-1:=by have:=Classical.not_not.1 hb;omega
  unfold Cu
  simp (disch:=omega) only [Af,if_pos,if_true,Ao4,Int.toNat_natCast,Int.natCast_add,Int.natCast_one,Option.bind_some,Aa2,hc,and_self,decide_true]) (fun i hi hb=>by
  have hc:¬(0≤nth xs i∧nth xs i≤n-1):=fun hh=>hb (by omega)
  unfold Cu
  simp (disch:=omega) only [Af,if_pos,if_false,Ao4,Int.toNat_natCast,Option.bind_some,Bool.false_eq_true,Aa2,hc,decide_false]) (by
  unfold Cu
  simp (disch:=omega) only [Af,if_pos,if_neg,Ao4,Int.toNat_natCast]) 0 (Nat.zero_le _)
 refine (Ug e false true).trans ?_
 congr 1
 refine Aor ?_
 rw [Ty]
 constructor
 ·intro hh x hx
  obtain ⟨i,hi,rfl⟩:=Hl.1 hx
  exact hh i hi
 ·intro hh i hi
  exact hh _ (Av hi)
end Go.Proofs.YtjcekpmojnnmbaaGreat.Ax
namespace Go.Proofs.YtjcekpmojnnmbaaGreat.Ax
open Go Classical
def LeO {α:Type} (a b:Option α):Prop := ∀v,a=some v→b=some v
theorem LeO.refl {α:Type} (a:Option α):LeO a a:=fun _ h=>h
theorem LeO.bind {α β:Type} {a b:Option α} {k l:α→Option β} (h:LeO a b) (hk : ∀x,LeO (k x) (l x)):LeO (a.bind k) (b.bind l):=by
 intro v e
 obtain ⟨x,h1,h2⟩:=Option.bind_eq_some_iff.1 e
 rw [h x h1];exact hk x v h2
theorem LeO.ask {α:Type} {p:Prop} {a b:Option α} (h:LeO a b):LeO (ask p a) (ask p b):=fun v e=>U3.2 ⟨(U3.1 e).1,h v (U3.1 e).2⟩
theorem LeO.loop {σ τ:Type} {f g:σ→Option (σ ⊕ τ)} (h : ∀s,LeO (f s) (g s)) (s:σ):LeO (Ao f s) (Ao g s):=by
 intro v e
 obtain ⟨n,hn⟩:=M4.1 e
 refine M4.2 ⟨n,?_⟩
 clear e
 induction n generalizing s with
 | zero=>cases hn
 | succ n ih=>
   simp only [Agg] at hn ⊢
   cases hf:f s with
   | none=>rw [hf] at hn;cases hn
   | some o=>
     rw [hf] at hn
     rw [h s o hf]
     cases o with
     | inl s'=>exact ih s' hn
     | inr t=>exact hn
def mx:Nat→(Nat→Nat)→Nat
 | 0,_=>0
 | n+1,f=>max (mx n f) (f n)
theorem A3h {n:Nat} {f:Nat→Nat} {i:Nat} (h:i<n):f i≤mx n f:=by
 induction n with
 | zero=>omega
 | succ n ih=>
   simp only [mx]
   by_cases e:i=n
   ·subst e;omega
   ·have:=ih (by omega);omega
theorem A3l {n m:Nat} {f:Nat→Nat} (h : ∀i,i<n→f i≤m):mx n f≤m:=by
 induction n with
 | zero=>simp [mx]
 | succ n ih=>
   simp only [mx]
   have:=ih fun i hi=>h i (by omega)
   have:=h n (by omega)
   omega
theorem Ayq {n:Nat} {f g:Nat→Nat} (h : ∀i,i<n→f i=g i):mx n f=mx n g:=by
 induction n with
 | zero=>rfl
 | succ n ih=>simp only [mx];rw [ih fun i hi=>h i (by omega),h n (by omega)]
def sm:Nat→(Nat→Nat)→Nat
 | 0,_=>0
 | n+1,f=>sm n f+f n
theorem A1o {n:Nat} {f g:Nat→Nat} (h : ∀i,i<n→f i≤g i):sm n f≤sm n g:=by
 induction n with
 | zero=>exact Nat.le_refl _
 | succ n ih=>simp only [sm];have:=ih fun i hi=>h i (by omega);have:=h n (by omega);omega
theorem A1r {n:Nat} {f g:Nat→Nat} (h : ∀i,i<n→f i≤g i) {j:Nat} (hj:j<n) (hl:f j<g j):sm n f<sm n g:=by
 induction n with
 | zero=>omega
 | succ n ih=>
   simp only [sm]
   by_cases e:j=n
   ·subst e;have:=A1o fun i hi=>h i (Nat.lt_succ_of_lt hi);omega
   ·have:=ih (fun i hi=>h i (by omega)) (by omega);have:=h n (by omega);omega
theorem Ax3 (n c:Nat):sm n (fun _=>c)=n*c:=by
 induction n with
 | zero=>simp [sm]
 | succ n ih=>simp only [sm,ih,Nat.succ_mul]
def many (n:Nat) (p:Nat→Bool):Nat:=sm n fun i=>if p i then 1 else 0
theorem A07 (n:Nat) (p:Nat→Bool):many n p≤n:=by
 have:=A1o (n:=n) (f:=fun i=>if p i then 1 else 0) (g:=fun _=>1) fun i _=>by (try dsimp only);split<;>omega
 rw [Ax3] at this
 unfold many;omega
structure Strict (n:Nat) (r:Nat→Nat→Bool):Prop where
 irr : ∀x,x<n→r x x=false
 tr : ∀x y z,x<n→y<n→z<n→r x y=true→r y z=true→r x z=true
def htn (n:Nat) (r:Nat→Nat→Bool):Nat→Nat→Nat
 | 0,_=>0
 | k+1,x=>mx n fun y=>if r y x then htn n r k y+1 else 0
def ht (n:Nat) (r:Nat→Nat→Bool) (x:Nat):Nat:=htn n r n x
section
variable {n:Nat} {r:Nat→Nat→Bool}
theorem Aub (h:Strict n r) {x y:Nat} (hx:x<n) (hy:y<n) (hr:r y x=true):many n (fun z=>r z y)<many n (fun z=>r z x):=by
 refine A1r (fun i hi=> ?_) hy ?_
 ·(try dsimp only)
  by_cases e:r i y=true
  ·rw [if_pos e,if_pos (h.tr i y x hi hy hx e hr)];exact Nat.le_refl _
  ·rw [if_neg e];exact Nat.zero_le _
 ·(try dsimp only)
  rw [if_pos hr,if_neg (by rw [h.irr y hy];simp)];exact Nat.zero_lt_one
theorem Asd (h:Strict n r) (k:Nat) : ∀x,x<n→many n (fun z=>r z x)≤k→htn n r k x=htn n r (k+1) x:=by
 induction k with
 | zero=>
   intro x hx hc
   have:htn n r 1 x≤0:=A3l fun y hy=>by
    (try dsimp only)
    rw [if_neg]
    ·exact Nat.le_refl _
    ·intro hr
     have:=Aub h hx hy hr
     omega
   have e:htn n r 0 x=0:=rfl
   show htn n r 0 x=htn n r 1 x
   omega
 | succ k ih=>
   intro x hx hc
   show mx n _=mx n _
   refine Ayq fun y hy=> ?_
   (try dsimp only)
   by_cases hr:r y x=true
   ·have:=Aub h hx hy hr
    rw [if_pos hr,if_pos hr,ih y hy (by omega)]
   ·rw [if_neg hr,if_neg hr]
theorem A3k (h:Strict n r) {x:Nat} (hx:x<n):ht n r x=mx n fun y=>if r y x then ht n r y+1 else 0:=Asd h n x hx (A07 _ _)
theorem A3i (h:Strict n r) {x y:Nat} (hx:x<n) (hy:y<n) (hr:r y x=true):ht n r y<ht n r x:=by
 rw [A3k h hx]
 have:=A3h (n:=n) (f:=fun y=>if r y x then ht n r y+1 else 0) hy
 (try dsimp only at this)
 rw [if_pos hr] at this
 omega
end
structure LInv (n:Nat) (r:Nat→Nat→Bool) (l:List Int):Prop where
 len:l.length=n
 low : ∀x,x<n→0≤nth l x
 high : ∀x,x<n→nth l x≤ht n r x
def tot (n:Nat) (l:List Int):Nat:=sm n fun i=>(nth l i).toNat
theorem LInv.set {n r l} (h:LInv n r l) (hs:Strict n r) {x y:Nat} (hx:x<n) (hy:y<n) (hr:r y x=true) (hl:nth l x≤nth l y):LInv n r (l.set x (nth l y+1))∧tot n l<tot n (l.set x (nth l y+1)):=by
 have e : ∀i,i<n→nth (l.set x (nth l y+1)) i=if x=i then nth l y+1 else nth l i:=fun i hi=>A0v _ _ _ _ (by rw [h.len];exact hi)
 refine ⟨⟨by rw [List.length_set];exact h.len,fun i hi=> ?_,fun i hi=> ?_⟩,?_⟩
 ·rw [e i hi]
  split
  ·have:=h.low y hy;omega
  ·exact h.low i hi
 ·rw [e i hi]
  split
  ·rename_i e;subst e
   have:=h.high y hy
   have:=A3i hs hx hy hr
   omega
  ·exact h.high i hi
 ·have hlow:=h.low y hy
  refine A1r (fun i hi=> ?_) hx ?_
  ·rw [e i hi]
   split
   ·rename_i e;subst e;omega
   ·exact Nat.le_refl _
  ·rw [e x hx,if_pos rfl];have:=h.low x hx;omega
end Go.Proofs.YtjcekpmojnnmbaaGreat.Ax
namespace Go.Proofs.YtjcekpmojnnmbaaGreat.Ax
open Go Classical
section
theorem Axw (a b:Int):J6 a b=some (if a>b then a else b):=by
 unfold J6;split<;>rfl
end
end Go.Proofs.YtjcekpmojnnmbaaGreat.Ax
namespace Go.Proofs.YtjcekpmojnnmbaaGreat.Ax
open Go Classical
theorem Axu {n:Nat} {q:Nat→Prop} (h : ∃x,x<n∧q x) : ∃x,x<n∧q x ∧ ∀y,y<x→¬q y:=by
 obtain ⟨x,hx,hq⟩:=h
 induction x using Nat.strongRecOn with
 | ind x ih=>
   by_cases hy : ∃y,y<x∧q y
   ·obtain ⟨y,h1,h2⟩:=hy
    exact ih y h1 (by omega) h2
   ·exact ⟨x,hx,hq,fun y h1 h2=>hy ⟨y,h1,h2⟩⟩
end Go.Proofs.YtjcekpmojnnmbaaGreat.Ax
namespace Go.Proofs.YtjcekpmojnnmbaaGreat.Ax
open Go Classical
theorem Afe {σ τ:Type} {body:σ→Option (σ ⊕ τ)} (s:Nat→σ) (n:Nat) (hit:Nat→Prop) (res:Nat→τ) (no:τ)
  (h : ∀i,i<n→¬hit i→body (s i)=some (.inl (s (i+1)))) (h2 : ∀i,i<n→hit i→body (s i)=some (.inr (res i))) (he:body (s n)=some (.inr no)) :
  (∃i,i<n∧hit i∧(∀j,j<i→¬hit j)∧Ao body (s 0)=some (res i))∨((∀i,i<n→¬hit i)∧Ao body (s 0)=some no):=by
 by_cases hx : ∃i,i<n∧hit i
 ·have key : ∀m i,i≤m→i<n→hit i → ∃i,i<n∧hit i ∧ ∀j,j<i→¬hit j:=by
   intro m
   induction m with
   | zero=>intro i h1 h2 h3;exact ⟨i,h2,h3,fun j hj=>by omega⟩
   | succ m ih=>
     intro i h1 h2 h3
     by_cases hy : ∃j,j<i∧hit j
     ·obtain ⟨j,h4,h5⟩:=hy
      exact ih j (by omega) (by omega) h5
     ·exact ⟨i,h2,h3,fun j hj hh=>hy ⟨j,hj,hh⟩⟩
  obtain ⟨i0,h1,h3⟩:=hx
  obtain ⟨i,h4,h5,h6⟩:=key i0 i0 (Nat.le_refl _) h1 h3
  exact .inl ⟨i,h4,h5,h6,Bk s i (res i) (fun j hj=>h j (by omega) (h6 j hj)) (h2 i h4 h5)⟩
 ·have hn : ∀i,i<n→¬hit i:=fun i hi hh=>hx ⟨i,hi,hh⟩
  exact .inr ⟨hn,Bk s n no (fun j hj=>h j hj (hn j hj)) he⟩
structure Ord (n:Nat) (f:Nat→Nat→Bool):Prop where
 refl : ∀x,x<n→f x x=true
 anti : ∀x y,x<n→y<n→f x y=true→f y x=true→x=y
 trans : ∀x y z,x<n→y<n→z<n→f x y=true→f y z=true→f x z=true
noncomputable def cov (n:Nat) (f:Nat→Nat→Bool) (x y:Nat):Bool:=decide ((x≠y∧f x y=true) ∧ ∀z,z<n→¬((x≠z∧f x z=true)∧(z≠y∧f z y=true)))
end Go.Proofs.YtjcekpmojnnmbaaGreat.Ax
namespace Go.Proofs.YtjcekpmojnnmbaaGreat.Ax
open Go Classical
end Go.Proofs.YtjcekpmojnnmbaaGreat.Ax
namespace Go.Proofs.YtjcekpmojnnmbaaGreat.Ax
open Go Classical
end Go.Proofs.YtjcekpmojnnmbaaGreat.Ax
namespace Go.Proofs.YtjcekpmojnnmbaaGreat.Ax
open Go Classical
end Go.Proofs.YtjcekpmojnnmbaaGreat.Ax
namespace Go.Proofs.YtjcekpmojnnmbaaGreat.Ax
open Go Classical
section
noncomputable def irr (n:Nat) (f:Nat→Nat→Bool):List Int:=Qd n fun y=>decide ((Qd n fun x=>cov n f x y).length=1)
end
end Go.Proofs.YtjcekpmojnnmbaaGreat.Ax
namespace Go.Proofs.YtjcekpmojnnmbaaGreat.Ax
open Go Classical
end Go.Proofs.YtjcekpmojnnmbaaGreat.Ax
