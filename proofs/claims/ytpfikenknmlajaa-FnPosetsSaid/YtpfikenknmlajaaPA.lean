/-
 Plain facts, joined.
-/
import Derived.Test.YtpfikenknmlajaaAx4
import Derived.Test.YtpfikenknmlajaaGALL
namespace Go.Proofs.Ytpfikenknmlajaa.Ax
open Go
theorem obs0 {α β:Type} (a:α) (f:α→Option β):(some a).bind f=f a:=rfl
theorem tna0 (n:Nat):(n:Int).toNat=n:=rfl
theorem dtr0 {p:Prop} [Decidable p] (h:p):decide p=true:=decide_eq_true h
theorem dfa0 {p:Prop} [Decidable p] (h:¬p):decide p=false:=decide_eq_false h
abbrev BIG:Nat:=9223372036854775807
theorem Fq {α:Type} [Inhabited α] {xs:List α} {i:Nat} (h:i<xs.length):nth xs i=xs[i]:=by simp [nth,List.getD_eq_getElem?_getD,h]
theorem Ba {α:Type} [Inhabited α] {xs:List α} {i:Nat} (h:i<xs.length):nth xs i∈xs:=by rw [Fq h];exact List.getElem_mem h
theorem K2 {α β:Type} [Inhabited α] [Inhabited β] (f:α→β) {xs:List α} {i:Nat} (h:i<xs.length):nth (xs.map f) i=f (nth xs i):=by
 rw [Fq h,Fq (by simpa using h)];simp
theorem I7 {i n:Nat} (h:i<n):nth (List.range n) i=i:=by rw [Fq (by simpa using h)];simp
theorem Bh {α:Type} [Inhabited α] {n i:Nat} (x:α) (h:i<n):nth (List.replicate n x) i=x:=by rw [Fq (by simpa using h)];simp
theorem Bm {α:Type} [Inhabited α] (xs:List α) (i j:Nat) (v:α) (h:j<xs.length):nth (xs.set i v) j=if i=j then v else nth xs j:=by
 rw [Fq (by simpa using h),Fq h,List.getElem_set]
theorem Ss {α:Type} [Inhabited α] {xs ys:List α} {i:Nat} (h:i<xs.length):nth (xs++ys) i=nth xs i:=by
 rw [Fq (by simp;omega),Fq h,List.getElem_append_left h]
theorem Amq {α:Type} [Inhabited α] {xs:List α} {y:α}:nth (xs++[y]) xs.length=y:=by
 rw [Fq (by simp)];simp
theorem Px {α:Type} [Inhabited α] {xs ys:List α} (hl:xs.length=ys.length) (h : ∀i,i<xs.length→nth xs i=nth ys i):xs=ys:=by
 refine List.ext_getElem hl fun i h1 h2=> ?_
 have:=h i h1
 rwa [Fq h1,Fq h2] at this
theorem Hu {α:Type} [Inhabited α] {xs:List α} {x:α}:x∈xs ↔ ∃i,i<xs.length∧nth xs i=x:=by
 constructor
 ·intro h
  obtain ⟨i,h1,h2⟩:=List.mem_iff_getElem.1 h
  exact ⟨i,h1,by rw [Fq h1,h2]⟩
 ·rintro ⟨i,h1,rfl⟩;exact Ba h1
theorem Ya {α:Type} [Inhabited α] {xs:List α} {i:Nat} (h:i<xs.length):xs.take (i+1)=xs.take i++[nth xs i]:=by
 rw [List.take_add_one,Fq h];simp [h]
theorem Atk {α:Type} (xs:List α) (z v:α) {i n:Nat} (hi:i<n) (hl:xs.length=i):(xs++List.replicate (n-i) z).set i v=(xs++[v])++List.replicate (n-(i+1)) z:=by
 subst hl
 rw [List.set_append_right _ _ (Nat.le_refl _),Nat.sub_self]
 have:n-xs.length=(n-(xs.length+1))+1:=by omega
 rw [this,List.replicate_succ,List.set_cons_zero]
 simp
section
variable {σ τ:Type} {body:σ→Option (σ ⊕ τ)}
theorem F7 {s s':σ} (h:body s=some (.inl s')):Aj body s=Aj body s':=by rw [Auw,h]
theorem D2 {s:σ} {t:τ} (h:body s=some (.inr t)):Aj body s=some t:=by rw [Auw,h]
theorem Az (s:Nat→σ) (n:Nat) (t:τ) (h : ∀i,i<n→body (s i)=some (.inl (s (i+1)))) (he:body (s n)=some (.inr t)):Aj body (s 0)=some t:=by
 have key : ∀k,k≤n→Aj body (s 0)=Aj body (s k):=by
  intro k
  induction k with
  | zero=>intro _;rfl
  | succ k ih=>intro hk;rw [ih (by omega),F7 (h k (by omega))]
 rw [key n (Nat.le_refl _),D2 he]
theorem Aq4 (s:Nat→σ) (i0 n:Nat) (t:τ) (h0:i0≤n) (h : ∀i,i0≤i→i<n→body (s i)=some (.inl (s (i+1)))) (he:body (s n)=some (.inr t)):Aj body (s i0)=some t:=by
 have:=Az (body:=body) (fun k=>s (i0+k)) (n-i0) t (fun i hi=>by simpa [Nat.add_assoc] using h (i0+i) (by omega) (by omega)) (by
  show body (s (i0+(n-i0)))=_
  rw [show i0+(n-i0)=n by omega];exact he)
 simpa using this
theorem Hq (inv:σ→Prop) (μ:σ→Nat) (post:τ→Prop) (h : ∀s,inv s→(∃s',body s=some (.inl s')∧inv s'∧μ s'<μ s)∨(∃t,body s=some (.inr t)∧post t)) : ∀ {s:σ},inv s → ∃t,Aj body s=some t∧post t:=by
 have key : ∀k s,μ s≤k→inv s → ∃t,Aj body s=some t∧post t:=by
  intro k
  induction k with
  | zero=>
    intro s hk hs
    rcases h s hs with ⟨s',h1,h2,h3⟩ | ⟨t,h1,h2⟩
    ·omega
    ·exact ⟨t,D2 h1,h2⟩
  | succ k ih=>
    intro s hk hs
    rcases h s hs with ⟨s',h1,h2,h3⟩ | ⟨t,h1,h2⟩
    ·rw [F7 h1];exact ih s' (by omega) h2
    ·exact ⟨t,D2 h1,h2⟩
 intro s hs
 exact key (μ s) s (Nat.le_refl _) hs
end
open Classical in
theorem Am9 {σ α β:Type} {body:σ→Option (σ ⊕ (α ⊕ β))} (s:Nat→σ) (i0 n:Nat) (bad:Nat→Prop) (a:α) (b:β) (hi0:i0≤n)
  (h : ∀i,i0≤i→i<n→¬bad i→body (s i)=some (.inl (s (i+1)))) (hb : ∀i,i0≤i→i<n→bad i→body (s i)=some (.inr (.inl a))) (he:body (s n)=some (.inr (.inr b))) :
  Aj body (s i0)=some (if ∃i,i0≤i∧i<n∧bad i then .inl a else .inr b):=by
 by_cases hx : ∃i,i0≤i∧i<n∧bad i
 ·rw [if_pos hx]
  obtain ⟨i,h1,h2,h3,h4⟩ : ∃i,i0≤i∧i<n∧bad i ∧ ∀j,i0≤j→j<i→¬bad j:=by
   have key : ∀k i,i≤k→i0≤i→i<n→bad i → ∃i,i0≤i∧i<n∧bad i ∧ ∀j,i0≤j→j<i→¬bad j:=by
    intro k
    induction k with
    | zero=>intro i hk h1 h2 h3;exact ⟨i,h1,h2,h3,fun j _ hj=>by omega⟩
    | succ k ih=>
      intro i hk h1 h2 h3
      by_cases hy : ∃j,i0≤j∧j<i∧bad j
      ·obtain ⟨j,k1,k2,k3⟩:=hy
       exact ih j (by omega) k1 (by omega) k3
      ·exact ⟨i,h1,h2,h3,fun j k1 k2 k3=>hy ⟨j,k1,k2,k3⟩⟩
   obtain ⟨i,h1,h2,h3⟩:=hx
   exact key i i (Nat.le_refl _) h1 h2 h3
  exact Aq4 s i0 i (.inl a) h1 (fun j k1 k2=>h j k1 (by omega) (h4 j k1 k2)) (hb i h1 h2 h3)
 ·rw [if_neg hx]
  exact Aq4 s i0 n (.inr b) hi0 (fun j k1 k2=>h j k1 k2 fun hc=>hx ⟨j,k1,k2,hc⟩) he
open Classical in
theorem Hc {σ α β:Type} {body:σ→Option (σ ⊕ (α ⊕ β))} (s:Nat→σ) (n:Nat) (bad:Nat→Prop) (a:α) (b:β)
  (h : ∀i,i<n→¬bad i→body (s i)=some (.inl (s (i+1)))) (hb : ∀i,i<n→bad i→body (s i)=some (.inr (.inl a))) (he:body (s n)=some (.inr (.inr b))) (i0:Nat) (hi0:i0≤n) :
  Aj body (s i0)=some (if ∃i,i0≤i∧i<n∧bad i then .inl a else .inr b):=
 Am9 s i0 n bad a b hi0 (fun i _=>h i) (fun i _=>hb i) he
open Classical in
theorem Ly {σ:Type} {body:σ→Option (σ ⊕ (Unit ⊕ Unit))} {s0:σ} {p:Prop} (h:Aj body s0=some (if p then .inl () else .inr ())) (x y:Bool) :
  ((Aj body s0).bind fun t=>match t with | .inl _=>some x | .inr _=>some y)=some (if p then x else y):=by
 rw [h]
 by_cases hp:p<;>simp [hp]
def tab (n:Nat) (f:Nat→Nat→Bool):List (List Bool):=(List.range n).map fun y=>(List.range n).map fun x=>f y x
theorem Bw (n:Nat) (f:Nat→Nat→Bool):(tab n f).length=n:=by simp [tab]
theorem Asf (n:Nat) (f:Nat→Nat→Bool) (y:Nat) (h:y<n):nth (tab n f) y=(List.range n).map fun x=>f y x:=by
 rw [Fq (by simp [tab];exact h)];simp [tab]
theorem Gk (n:Nat) (f:Nat→Nat→Bool) (y:Nat) (h:y<n):(nth (tab n f) y).length=n:=by rw [Asf n f y h];simp
theorem Afl (n:Nat) (f:Nat→Nat→Bool) (y x:Nat) (h:y<n) (h2:x<n):nth (nth (tab n f) y) x=f y x:=by
 rw [Asf n f y h,Fq (by simpa using h2)];simp
theorem Abv (n:Nat) (f:Nat→Nat→Bool) (y:Nat) (h:y<n):(nth (tab n f) ((y:Int)).toNat).length=n:=Gk n f y h
theorem Ah5 (n:Nat) (f:Nat→Nat→Bool) (y x:Nat) (h:y<n) (h2:x<n):nth (nth (tab n f) ((y:Int)).toNat) ((x:Int)).toNat=f y x:=Afl n f y x h h2
theorem Tj {n:Nat} {f g:Nat→Nat→Bool} (h : ∀y x,y<n→x<n→f y x=g y x):tab n f=tab n g:=by
 unfold tab
 refine List.map_congr_left fun y hy=>List.map_congr_left fun x hx=>h y x (List.mem_range.1 hy) (List.mem_range.1 hx)
theorem A1z (n:Nat):tab n (fun _ _=>false)=List.replicate n (List.replicate n false):=by
 refine List.ext_getElem (by simp [tab]) fun a ha hb=> ?_
 simp only [tab,List.getElem_map,List.getElem_replicate]
 refine List.ext_getElem (by simp) fun b hb1 hb2=> ?_
 simp
theorem Att (n:Nat) (f:Nat→Nat→Bool) (y x:Nat) (v:Bool) (h:y<n) (_h2:x<n):(tab n f).set y ((nth (tab n f) y).set x v)=tab n (fun a b=>if a=y∧b=x then v else f a b):=by
 rw [Asf n f y h]
 refine List.ext_getElem (by simp [tab]) fun a ha hb=> ?_
 have ha':a<n:=by simpa [tab] using ha
 simp only [tab,List.getElem_set,List.getElem_map,List.getElem_range]
 refine List.ext_getElem (by split<;>simp) fun b hb1 hb2=> ?_
 have hb':b<n:=by simpa using hb2
 by_cases hay:y=a
 ·subst hay
  simp only [if_true,List.getElem_set,List.getElem_map,List.getElem_range,true_and]
  by_cases hbx:x=b
  ·subst hbx;simp
  ·rw [if_neg hbx,if_neg (Ne.symm hbx)]
 ·simp [hay,Ne.symm hay]
end Go.Proofs.Ytpfikenknmlajaa.Ax
namespace Go.Proofs.Ytpfikenknmlajaa.Ax
open Go Classical
theorem Ao:LIM=4294967296:=rfl
theorem K5 {n:Nat} {p:Nat→Prop}:(¬ ∃i,0≤i∧i<n∧¬p i) ↔ ∀i,i<n→p i:=by
 constructor
 ·intro h i hi;exact Classical.byContradiction fun hc=>h ⟨i,by omega,hi,hc⟩
 ·rintro h ⟨i,_,hi,hc⟩;exact hc (h i hi)
end Go.Proofs.Ytpfikenknmlajaa.Ax
namespace Go.Proofs.Ytpfikenknmlajaa.Ax
open Go Classical
theorem Ww {p q:Prop} [Decidable p] [Decidable q] (h:¬p↔q):(if p then false else true)=decide q:=by
 by_cases hp:p
 ·rw [if_pos hp,dfa0];exact fun hq=>h.2 hq hp
 ·rw [if_neg hp,dtr0 (h.1 hp)]
theorem A6y {p q:Prop} [Decidable p] [Decidable q] (h:p↔q):(if p then true else false)=decide q:=by
 by_cases hp:p
 ·rw [if_pos hp,dtr0 (h.1 hp)]
 ·rw [if_neg hp,dfa0];exact fun hq=>hp (h.2 hq)
theorem Atb (x a b:Int):Nq x a b=some (decide (a≤x∧x≤b)):=by
 unfold Nq
 split
 ·rename_i h;congr 1;rw [decide_eq_decide];constructor
  ·intro h2;exact ⟨h,h2⟩
  ·exact fun h2=>h2.2
 ·rename_i h;rw [dfa0];exact fun h2=>h h2.1
def Ae2 (xs:List Int) (lo hi:Int):Prop := ∀i,i<xs.length→(lo≤nth xs i∧nth xs i≤hi)∧(0<i→nth xs (i-1)<nth xs i)
theorem And (xs:List Int) (lo hi:Int) (h:xs.length≤LIM):J1 xs lo hi=some (decide (Ae2 xs lo hi)):=by
 unfold J1
 rw [Ao] at h
 have:=Hc (body:=Eg xs lo hi) (fun i=>(i:Int)) xs.length (fun i=>¬((lo≤nth xs i∧nth xs i≤hi)∧(0<i→nth xs (i-1)<nth xs i))) () () (fun i hi' hb=>by
  have hb:=Classical.not_not.1 hb
  unfold Eg
  rw [if_pos (by omega),Ae (by omega),Atb]
  simp only [tna0,obs0]
  rw [if_pos (by simpa using hb.1)]
  by_cases h0:0<i
  ·rw [if_pos (by omega),Ae (by unfold InI;omega),Ae (by omega),Ae (by omega)]
   rw [show ((i:Int)-1).toNat=i-1 by omega,if_neg (by have:=hb.2 h0;omega),Ae (by unfold InI;omega)];rfl
  ·rw [if_neg (by omega),Ae (by unfold InI;omega)];rfl) (fun i hi' hb=>by
  unfold Eg
  rw [if_pos (by omega),Ae (by omega),Atb]
  simp only [tna0,obs0]
  by_cases h1:lo≤nth xs i∧nth xs i≤hi
  ·have h2:0<i∧¬nth xs (i-1)<nth xs i:=by
    by_cases h0:0<i
    ·exact ⟨h0,fun hc=>hb ⟨h1,fun _=>hc⟩⟩
    ·exact absurd ⟨h1,fun hc=>absurd hc h0⟩ hb
   rw [if_pos (by simpa using h1),if_pos (by omega),Ae (by unfold InI;omega),Ae (by omega),Ae (by omega)]
   rw [show ((i:Int)-1).toNat=i-1 by omega,if_pos (by omega)]
  ·rw [if_neg (by simpa using h1)]) (by unfold Eg;rw [if_neg (by omega)]) 0 (by omega)
 exact (Ly this false true).trans (congrArg some (Ww K5))
theorem Adc (xs:List Int) (n:Int) (h:xs.length≤LIM):Ii xs n=some (decide (n∈xs)):=by
 unfold Ii
 rw [Ao] at h
 have:=Hc (body:=Gu xs n) (fun i=>(i:Int)) xs.length (fun i=>nth xs i=n) () () (fun i hi hb=>by
  unfold Gu
  rw [if_pos (by omega),Ae (by omega)]
  simp only [tna0]
  rw [if_neg hb,Ae (by unfold InI;omega)];rfl) (fun i hi hb=>by
  unfold Gu
  rw [if_pos (by omega),Ae (by omega)]
  simp only [tna0]
  rw [if_pos hb]) (by unfold Gu;rw [if_neg (by omega)]) 0 (by omega)
 refine (Ly this true false).trans (congrArg some (A6y ?_))
 rw [Hu]
 constructor
 ·rintro ⟨i,_,h1,h2⟩;exact ⟨i,h1,h2⟩
 ·rintro ⟨i,h1,h2⟩;exact ⟨i,by omega,h1,h2⟩
theorem Ao1 (xs ys:List Int) (h1:xs.length≤LIM) (h2:ys.length≤LIM):H6 xs ys=some (decide (∀x∈xs,x∈ys)):=by
 unfold H6
 rw [Ao] at h1
 have:=Hc (body:=Ee xs ys) (fun i=>(i:Int)) xs.length (fun i=>¬nth xs i∈ys) () () (fun i hi hb=>by
  unfold Ee
  rw [if_pos (by omega),Ae (by omega),Adc _ _ h2]
  simp only [tna0,obs0]
  rw [if_pos (by simpa using hb),Ae (by unfold InI;omega)];rfl) (fun i hi hb=>by
  unfold Ee
  rw [if_pos (by omega),Ae (by omega),Adc _ _ h2]
  simp only [tna0,obs0]
  rw [if_neg (by simpa using hb)]) (by unfold Ee;rw [if_neg (by omega)]) 0 (by omega)
 refine (Ly this false true).trans (congrArg some (Ww ?_))
 rw [K5]
 constructor
 ·intro h x hx;obtain ⟨i,hi,rfl⟩:=Hu.1 hx;exact h i hi
 ·intro h i hi;exact h _ (Ba hi)
def R8 (xs:List Int):Prop := ∀i,0<i→i<xs.length→nth xs (i-1)<nth xs i
def Fy (xs:List Int) (n:Int):Prop := ∀x∈xs,0≤x∧x<n
theorem Az1 (xs:List Int) (h:xs.length≤LIM):Nz xs=some (decide (R8 xs)):=by
 unfold Nz
 rw [Ao] at h
 by_cases h0:xs.length=0
 ·have:Aj (Ec xs) 1=some (.inr ()):=D2 (by unfold Ec;rw [if_neg (by omega)])
  rw [this,dtr0]
  ·rfl
  ·intro i _ hi;omega
 have:=Am9 (body:=Ec xs) (fun i=>(i:Int)) 1 xs.length (fun i=>¬nth xs (i-1)<nth xs i) () () (by omega) (fun i hi0 hi hb=>by
  unfold Ec
  rw [if_pos (by omega),Ae (by unfold InI;omega),Ae (by omega),Ae (by omega)]
  simp only [tna0]
  rw [show ((i:Int)-1).toNat=i-1 by omega,if_neg (by have:=Classical.not_not.1 hb;omega),Ae (by unfold InI;omega)];rfl) (fun i hi0 hi hb=>by
  unfold Ec
  rw [if_pos (by omega),Ae (by unfold InI;omega),Ae (by omega),Ae (by omega)]
  simp only [tna0]
  rw [show ((i:Int)-1).toNat=i-1 by omega,if_pos (by omega)]) (by unfold Ec;rw [if_neg (by omega)])
 refine (Ly this false true).trans (congrArg some (Ww ?_))
 constructor
 ·intro h2 i h3 h4;exact Classical.byContradiction fun hc=>h2 ⟨i,h3,h4,hc⟩
 ·rintro h2 ⟨i,h3,h4,hc⟩;exact hc (h2 i h3 h4)
theorem Apa (xs:List Int) (n:Int) (h:xs.length≤LIM):J7 xs n=some (decide (Fy xs n)):=by
 unfold J7
 rw [Ao] at h
 have:=Hc (body:=F3 xs n) (fun i=>(i:Int)) xs.length (fun i=>¬(0≤nth xs i∧nth xs i<n)) () () (fun i hi hb=>by
  unfold F3
  have hb:=Classical.not_not.1 hb
  rw [if_pos (by omega),Ae (by omega)]
  simp only [tna0]
  rw [if_neg (by omega),if_neg (by omega),Ae (by unfold InI;omega)];rfl) (fun i hi hb=>by
  unfold F3
  rw [if_pos (by omega),Ae (by omega)]
  simp only [tna0]
  by_cases h0:nth xs i<0
  ·rw [if_pos h0]
  ·rw [if_neg h0,if_pos (by omega)]) (by unfold F3;rw [if_neg (by omega)]) 0 (by omega)
 refine (Ly this false true).trans (congrArg some (Ww ?_))
 rw [K5]
 constructor
 ·intro h x hx;obtain ⟨i,hi,rfl⟩:=Hu.1 hx;exact h i hi
 ·intro h i hi;exact h _ (Ba hi)
theorem Agi (n:Nat) (h:n≤LIM):Gw n=some (tab n fun _ _=>false):=by
 unfold Gw
 have h':=h
 rw [Ao] at h'
 rw [Ae (by rw [Ao];omega)]
 have:=Az (body:=F2 n) (fun i=>((i:Int),List.replicate i (List.replicate n false)++List.replicate (n-i) [])) n (tab n fun _ _=>false) (fun i hi=>by
  unfold F2
  dsimp only
  rw [if_pos (by omega),Ae (by rw [Ao];omega),Ae (by simp;omega),Ae (by unfold InI;omega)]
  simp only [tna0]
  rw [Atk _ _ _ hi (by simp),←List.replicate_succ']
  rfl) (by
  unfold F2
  dsimp only
  rw [if_neg (by omega),A1z]
  simp)
 simp only [List.replicate_zero,List.nil_append,Nat.sub_zero] at this
 simp only [tna0]
 show (Aj _ (((0:Nat):Int),_)).bind _=_
 rw [this];rfl
def Aut (n:Nat) (f:Nat→Nat→Bool) (x y:Nat):Prop:=¬(x≠y∧f x y=true∧f y x=true) ∧ ∀z,z<n→f x y=true→f y z=true→f x z=true
def Am4 (n:Nat) (f:Nat→Nat→Bool):Prop := ∀x,x<n→f x x=true ∧ ∀y,y<n→Aut n f x y
theorem A5e (n:Nat) (f:Nat→Nat→Bool) (h:n≤LIM) : ∀x y,x<n→y<n→Aj (Bn (tab n f) x y) 0=some (if ∃z,0≤z∧z<n∧¬(f x y=true→f y z=true→f x z=true) then .inl () else .inr ()):=by
 rw [Ao] at h
 have tl:=Bw n f
 have rl:=Abv n f
 have at_:=Ah5 n f
 intro x y hx hy
 have rx:=rl x hx
 have ry:=rl y hy
 have step : ∀z,z<n→Bn (tab n f) x y z=some (if f x y=true→f y z=true→f x z=true then .inl ((z+1:Nat):Int) else .inr (.inl ())):=by
  intro z hz
  unfold Bn
  rw [if_pos (by omega),Ae (by omega)]
  rw [Ae (by omega)]
  by_cases h1:f x y=true
  ·rw [if_pos ((at_ x y hx hy).trans h1),Ae (by omega),Ae (by omega)]
   by_cases h2:f y z=true
   ·rw [if_pos ((at_ y z hy hz).trans h2),Ae (by omega),Ae (by omega)]
    by_cases h3:f x z=true
    ·rw [if_pos ((at_ x z hx hz).trans h3),Ae (by unfold InI;omega),if_pos (fun _ _=>h3)];rfl
    ·rw [if_neg (by rw [at_ x z hx hz];exact h3),if_neg (fun hc=>h3 (hc h1 h2))]
   ·rw [if_neg (by rw [at_ y z hy hz];exact h2),Ae (by unfold InI;omega),if_pos (fun _ hc=>absurd hc h2)];rfl
  ·rw [if_neg (by rw [at_ x y hx hy];exact h1),Ae (by unfold InI;omega),if_pos (fun hc=>absurd hc h1)];rfl
 refine Hc (body:=Bn (tab n f) x y) (fun i=>(i:Int)) n (fun z=>¬(f x y=true→f y z=true→f x z=true)) () () (fun z hz hb=> ?_) (fun z hz hb=> ?_) ?_ 0 (by omega)
 ·rw [step z hz,if_pos (Classical.not_not.1 hb)]
 ·rw [step z hz,if_neg hb]
 ·unfold Bn
  rw [if_neg (by omega)]
theorem A31 (n:Nat) (f:Nat→Nat→Bool) (h:n≤LIM) : ∀x,x<n→Aj (B7 (tab n f) x) 0=some (if ∃y,0≤y∧y<n∧¬Aut n f x y then .inl () else .inr ()):=by
 have l1:=A5e n f h
 rw [Ao] at h
 have tl:=Bw n f
 have rl:=Abv n f
 have at_:=Ah5 n f
 intro x hx
 have rx:=rl x hx
 have step : ∀y,y<n→B7 (tab n f) x y=some (if Aut n f x y then .inl ((y+1:Nat):Int) else .inr (.inl ())):=by
  intro y hy
  have ry:=rl y hy
  unfold B7
  rw [if_pos (by omega)]
  by_cases h1:x≠y∧f x y=true∧f y x=true
  ·rw [if_pos (by omega),Ae (by omega),Ae (by omega),if_pos ((at_ x y hx hy).trans h1.2.1),Ae (by omega),Ae (by omega),if_pos ((at_ y x hy hx).trans h1.2.2),if_neg (fun hc=>hc.1 h1)]
   rfl
  ·have piece : ∀ {α:Type} (A B:Option α) (h4:x≠y→¬f x y=true→A=B) (h5:x=y→A=B) (h6:x≠y→f x y=true→¬f y x=true→A=B),A=B:=by
    intro α A B h4 h5 h6
    by_cases hxy:x=y
    ·exact h5 hxy
    ·by_cases h2:f x y=true
     ·by_cases h3:f y x=true
      ·exact absurd ⟨hxy,h2,h3⟩ h1
      ·exact h6 hxy h2 h3
     ·exact h4 hxy h2
   have tail:((Aj (Bn (tab n f) (x:Int) (y:Int)) 0).bind fun t=>match t with
     | (.inl _)=>(some (.inr (.inl ())))
     | (.inr _)=>(ask (InI ((y:Int)+1))<|some (.inl ((y:Int)+1)):Option (Int ⊕ (Unit ⊕ Unit))))=some (if Aut n f x y then .inl ((y+1:Nat):Int) else .inr (.inl ())):=by
    rw [l1 x y hx hy]
    by_cases h2 : ∃z,0≤z∧z<n∧¬(f x y=true→f y z=true→f x z=true)
    ·rw [if_pos h2,if_neg]
     ·rfl
     ·intro hc;obtain ⟨z,_,hz,hd⟩:=h2;exact hd (hc.2 z hz)
    ·rw [if_neg h2,if_pos ⟨h1,K5.1 h2⟩]
     simp only [obs0]
     rw [Ae (by unfold InI;omega)];rfl
   refine piece _ _ (fun h2 h3=> ?_) (fun h2=> ?_) (fun h2 h3 h4=> ?_)
   ·rw [if_pos (by omega),Ae (by omega),Ae (by omega),if_neg (by rw [at_ x y hx hy];exact h3)]
    exact tail
   ·rw [if_neg (by omega)]
    exact tail
   ·rw [if_pos (by omega),Ae (by omega),Ae (by omega),if_pos ((at_ x y hx hy).trans h3),Ae (by omega),Ae (by omega),if_neg (by rw [at_ y x hy hx];exact h4)]
    exact tail
 refine Hc (body:=B7 (tab n f) x) (fun i=>(i:Int)) n (fun y=>¬Aut n f x y) () () (fun y hy hb=> ?_) (fun y hy hb=> ?_) ?_ 0 (by omega)
 ·rw [step y hy,if_pos (Classical.not_not.1 hb)]
 ·rw [step y hy,if_neg hb]
 ·unfold B7
  rw [if_neg (by omega)]
theorem Ary (n:Nat) (f:Nat→Nat→Bool) (h:n≤LIM):El (tab n f)=some (decide (Am4 n f)):=by
 unfold El
 have l2:=A31 n f h
 rw [Ao] at h
 have tl:=Bw n f
 have rl:=Abv n f
 have at_:=Ah5 n f
 have step : ∀x,x<n→Cp (tab n f) x=some (if f x x=true ∧ ∀y,y<n→Aut n f x y then .inl ((x+1:Nat):Int) else .inr (.inl ())):=by
  intro x hx
  have rx:=rl x hx
  unfold Cp
  rw [if_pos (by omega),Ae (by omega)]
  rw [Ae (by omega)]
  by_cases h1:f x x=true
  ·rw [if_pos ((at_ x x hx hx).trans h1),l2 x hx]
   by_cases h2 : ∃y,0≤y∧y<n∧¬Aut n f x y
   ·rw [if_pos h2,if_neg]
    ·rfl
    ·intro hc;obtain ⟨y,_,hy,hd⟩:=h2;exact hd (hc.2 y hy)
   ·rw [if_neg h2,if_pos ⟨h1,K5.1 h2⟩]
    simp only [obs0]
    rw [Ae (by unfold InI;omega)];rfl
  ·rw [if_neg (by rw [at_ x x hx hx];exact h1),if_neg (fun hc=>h1 hc.1)]
 have l3:=Hc (body:=Cp (tab n f)) (fun i=>(i:Int)) n (fun x=>¬(f x x=true ∧ ∀y,y<n→Aut n f x y)) () () (fun x hx hb=>by
  rw [step x hx,if_pos (Classical.not_not.1 hb)]) (fun x hx hb=>by rw [step x hx,if_neg hb]) (by unfold Cp;rw [if_neg (by omega)]) 0 (by omega)
 exact (Ly l3 false true).trans (congrArg some (Ww K5))
end Go.Proofs.Ytpfikenknmlajaa.Ax
namespace Go.Proofs.Ytpfikenknmlajaa.Ax
open Go Classical
def A0k (xss:List (List Int)):Prop:=xss.length≤10 ∧ ∀r∈xss,R8 r∧Fy r xss.length
noncomputable def below (xss:List (List Int)) (y x:Nat):Bool:=decide ((y:Int)∈nth xss x)
noncomputable def Sv (xss:List (List Int)) (i:Nat) (y x:Nat):Bool:=decide (x<i∧(y:Int)∈nth xss x)
noncomputable def Xw (xss:List (List Int)) (i j:Nat) (y x:Nat):Bool:=decide ((x<i∧(y:Int)∈nth xss x)∨(x=i∧(y:Int)∈(nth xss i).take j))
theorem A3h (xss:List (List Int)) (i:Nat):Xw xss i 0=Sv xss i:=by
 funext y x;simp [Xw,Sv]
theorem Ayy (xss:List (List Int)) (i j:Nat) (h:(nth xss i).length≤j):Xw xss i j=Sv xss (i+1):=by
 funext y x
 simp only [Xw,Sv,List.take_of_length_le h,decide_eq_decide]
 constructor
 ·rintro (⟨h1,h2⟩ | ⟨rfl,h2⟩)
  ·exact ⟨by omega,h2⟩
  ·exact ⟨by omega,h2⟩
 ·rintro ⟨h1,h2⟩
  rcases Nat.lt_succ_iff_lt_or_eq.1 h1 with h | rfl
  ·exact .inl ⟨h,h2⟩
  ·exact .inr ⟨rfl,h2⟩
theorem Awl (xss:List (List Int)) (i j c:Nat) (h:j<(nth xss i).length) (hc:nth (nth xss i) j=(c:Int)) :
  (fun a b=>if a=c∧b=i then true else Xw xss i j a b)=Xw xss i (j+1):=by
 funext a b
 simp only [Xw]
 rw [Ya h,hc]
 by_cases hab:a=c∧b=i
 ·obtain ⟨rfl,rfl⟩:=hab
  simp
 ·rw [if_neg hab,decide_eq_decide]
  simp only [List.mem_append,List.mem_singleton]
  constructor
  ·rintro (h1 | ⟨h1,h2⟩)
   ·exact .inl h1
   ·exact .inr ⟨h1,.inl h2⟩
  ·rintro (h1 | ⟨h1,h2 | h2⟩)
   ·exact .inl h1
   ·exact .inr ⟨h1,h2⟩
   ·exact absurd ⟨by omega,h1⟩ hab
theorem Ayv (xss:List (List Int)) (n:Nat) (_h:n=xss.length):tab n (Sv xss n)=tab n (below xss):=by
 refine Tj fun y x _ hx=> ?_
 simp [Sv,below,hx]
theorem A3f (p:SPoset) (i:Nat) (hi:i<p.Below.length) (hl:(nth p.Below i).length≤LIM) (hs:Fy (nth p.Below i) p.Below.length) :
  Aj (Ev p i) (0,tab p.Below.length (Sv p.Below i))=some (tab p.Below.length (Sv p.Below (i+1))):=by
 rw [Ao] at hl
 have:=Az (body:=Ev p i) (fun j=>((j:Int),tab p.Below.length (Xw p.Below i j))) (nth p.Below i).length (tab p.Below.length (Sv p.Below (i+1))) (fun j hj=>by
  unfold Ev
  dsimp only
  obtain ⟨c,hc⟩:=Int.eq_ofNat_of_zero_le (hs _ (Ba hj)).1
  have hcn:c<p.Below.length:=by have:=(hs _ (Ba hj)).2;omega
  have tl:=Bw p.Below.length (Xw p.Below i j)
  have tr:=Gk p.Below.length (Xw p.Below i j) c hcn
  simp only [tna0,hc]
  rw [if_pos (by omega),Ae (by omega),Ae (by omega),Ae (by omega),Ae (by unfold InI;omega),Att _ _ _ _ _ hcn hi,Awl _ _ _ _ hj hc]
  rfl) (by
  unfold Ev
  dsimp only
  simp only [tna0]
  rw [if_neg (by omega),Ayy _ _ _ (Nat.le_refl _)])
 simp only [A3h] at this
 exact this
theorem Arl (p:SPoset) (h0:p.Below.length≤LIM) (h1 : ∀r∈p.Below,r.length≤LIM) :
  Bj p=some (if A0k p.Below then (tab p.Below.length (below p.Below),decide (Am4 p.Below.length (below p.Below))) else ([],false)):=by
 unfold Bj
 have h0':=h0
 rw [Ao] at h0'
 split
 ·rename_i h
  rw [if_neg (by rintro ⟨h2,_⟩;omega)]
 rename_i h
 have hn:p.Below.length≤10:=by omega
 rw [Agi _ h0]
 simp only [obs0]
 have:=Hc (body:=Ez p) (fun i=>((i:Int),tab p.Below.length (Sv p.Below i))) p.Below.length (fun i=>¬(R8 (nth p.Below i)∧Fy (nth p.Below i) p.Below.length)) () (tab p.Below.length (below p.Below)) (fun i hi hb=>by
  have hb:=Classical.not_not.1 hb
  have hl:=h1 _ (Ba hi)
  unfold Ez
  dsimp only
  rw [if_pos (by omega),Ae (by omega)]
  simp only [tna0]
  rw [Az1 _ hl,Apa _ _ hl]
  simp only [obs0,hb.1,hb.2,decide_true,if_true]
  rw [A3f p i hi hl hb.2]
  simp only [obs0]
  rw [Ae (by unfold InI;omega)];rfl) (fun i hi hb=>by
  have hl:=h1 _ (Ba hi)
  unfold Ez
  dsimp only
  rw [if_pos (by omega),Ae (by omega)]
  simp only [tna0]
  rw [Az1 _ hl,Apa _ _ hl]
  by_cases h2:R8 (nth p.Below i)
  ·have h3:¬Fy (nth p.Below i) p.Below.length:=fun hc=>hb ⟨h2,hc⟩
   simp [h2,h3]
  ·simp [h2]) (by
  unfold Ez
  dsimp only
  rw [if_neg (by omega),Ayv _ _ rfl]) 0 (by omega)
 have e0:Sv p.Below 0=fun _ _=>false:=by funext y x;simp [Sv]
 simp only [e0] at this
 rw [show (((0:Nat):Int))=0 from rfl] at this
 rw [this]
 by_cases hx : ∃i,0≤i∧i<p.Below.length∧¬(R8 (nth p.Below i)∧Fy (nth p.Below i) p.Below.length)
 ·rw [if_pos hx,if_neg]
  ·rfl
  ·rintro ⟨_,hp⟩;obtain ⟨i,_,hi,hc⟩:=hx;exact hc (hp _ (Ba hi))
 ·have hall:=K5.1 hx
  rw [if_neg hx,if_pos ⟨hn,fun r hr=>by obtain ⟨i,hi,rfl⟩:=Hu.1 hr;exact hall i hi⟩]
  simp only [obs0]
  rw [Ary _ _ h0];rfl
def good (xss:List (List Int)):Prop:=xss.length≤10∧(∀x,x<xss.length→Ae2 (nth xss x) 0 (xss.length-1)∧(x:Int)∈nth xss x) ∧
 ∀x,x<xss.length → ∀i,i<(nth xss x).length→¬(nth (nth xss x) i≠x∧(x:Int)∈nth xss (nth (nth xss x) i).toNat) ∧
   ∀z∈nth xss (nth (nth xss x) i).toNat,z∈nth xss x
theorem A4y (p:SPoset) (h1 : ∀r∈p.Below,r.length≤LIM) (x:Nat) (hx:x<p.Below.length) (hb:Ae2 (nth p.Below x) 0 (p.Below.length-1)) :
  Aj (D6 p x) 0=some (if ∃i,0≤i∧i<(nth p.Below x).length∧¬(¬(nth (nth p.Below x) i≠x∧(x:Int)∈nth p.Below (nth (nth p.Below x) i).toNat) ∧ ∀z∈nth p.Below (nth (nth p.Below x) i).toNat,z∈nth p.Below x) then .inl () else .inr ()):=by
 have hl:=h1 _ (Ba hx)
 have hl':=hl
 rw [Ao] at hl'
 have step : ∀i,i<(nth p.Below x).length→D6 p x i=some (if ¬(nth (nth p.Below x) i≠x∧(x:Int)∈nth p.Below (nth (nth p.Below x) i).toNat) ∧ ∀z∈nth p.Below (nth (nth p.Below x) i).toNat,z∈nth p.Below x then .inl ((i+1:Nat):Int) else .inr (.inl ())):=by
  intro i hi
  have hv:=(hb i hi).1
  unfold D6
  rw [Ae (by omega)]
  simp only [tna0]
  rw [if_pos (by omega),Ae (by omega),Ae (by omega)]
  have hy:(nth (nth p.Below x) i).toNat<p.Below.length:=by omega
  have hly:=h1 _ (Ba hy)
  by_cases h2:nth (nth p.Below x) i=x
  ·rw [if_neg (by simpa using h2),Ae (by omega),Ae (by omega),Ao1 _ _ hly hl]
   simp only [obs0]
   by_cases h3 : ∀z∈nth p.Below (nth (nth p.Below x) i).toNat,z∈nth p.Below x
   ·rw [if_pos (by simpa using h3),Ae (by unfold InI;omega),if_pos ⟨fun hc=>hc.1 h2,h3⟩];rfl
   ·rw [if_neg (by simpa using h3),if_neg (fun hc=>h3 hc.2)]
  ·rw [if_pos (by simpa using h2),Ae (by omega),Adc _ _ hly]
   simp only [obs0]
   by_cases h4:(x:Int)∈nth p.Below (nth (nth p.Below x) i).toNat
   ·rw [if_pos (by simpa using h4),if_neg (fun hc=>hc.1 ⟨h2,h4⟩)]
   ·rw [if_neg (by simpa using h4),Ae (by omega),Ae (by omega),Ao1 _ _ hly hl]
    simp only [obs0]
    by_cases h3 : ∀z∈nth p.Below (nth (nth p.Below x) i).toNat,z∈nth p.Below x
    ·rw [if_pos (by simpa using h3),Ae (by unfold InI;omega),if_pos ⟨fun hc=>h4 hc.2,h3⟩];rfl
    ·rw [if_neg (by simpa using h3),if_neg (fun hc=>h3 hc.2)]
 refine Hc (body:=D6 p x) (fun i=>(i:Int)) (nth p.Below x).length _ () () (fun i hi hb=> ?_) (fun i hi hb=> ?_) ?_ 0 (by omega)
 ·rw [step i hi,if_pos (Classical.not_not.1 hb)]
 ·rw [step i hi,if_neg hb]
 ·unfold D6
  rw [Ae (by omega),if_neg (by simp)]
theorem Tg (p:SPoset) (h0:p.Below.length≤LIM) (h1 : ∀r∈p.Below,r.length≤LIM):Gi p=some (decide (good p.Below)):=by
 unfold Gi
 rw [Ao] at h0
 split
 ·rename_i h;rw [dfa0];rintro ⟨h2,_⟩;omega
 rename_i h
 have hn:p.Below.length≤10:=by omega
 have hA:=Hc (body:=Ey p) (fun i=>(i:Int)) p.Below.length (fun x=>¬(Ae2 (nth p.Below x) 0 (p.Below.length-1)∧(x:Int)∈nth p.Below x)) () () (fun x hx hb=>by
  have hb:=Classical.not_not.1 hb
  have hl:=h1 _ (Ba hx)
  unfold Ey
  rw [if_pos (by omega),Ae (by omega),Ae (by unfold InI;omega)]
  simp only [tna0]
  rw [And _ _ _ hl]
  simp only [obs0]
  rw [if_pos (by simpa using hb.1),Ae (by omega),Adc _ _ hl]
  simp only [obs0]
  rw [if_pos (by simpa using hb.2),Ae (by unfold InI;omega)];rfl) (fun x hx hb=>by
  have hl:=h1 _ (Ba hx)
  unfold Ey
  rw [if_pos (by omega),Ae (by omega),Ae (by unfold InI;omega)]
  simp only [tna0]
  rw [And _ _ _ hl]
  simp only [obs0]
  by_cases h2:Ae2 (nth p.Below x) 0 (p.Below.length-1)
  ·rw [if_pos (by simpa using h2),Ae (by omega),Adc _ _ hl]
   simp only [obs0]
   rw [if_neg (by simpa using fun hc=>hb ⟨h2,hc⟩)]
  ·rw [if_neg (by simpa using h2)]) (by unfold Ey;rw [if_neg (by omega)]) 0 (by omega)
 by_cases hxA : ∃i,0≤i∧i<p.Below.length∧¬(Ae2 (nth p.Below i) 0 (p.Below.length-1)∧(i:Int)∈nth p.Below i)
 ·rw [if_pos hxA] at hA
  rw [show (((0:Nat):Int))=0 from rfl] at hA
  rw [hA,dfa0]
  ·rfl
  ·rintro ⟨_,hc,_⟩;obtain ⟨i,_,hi,hd⟩:=hxA;exact hd (hc i hi)
 rw [if_neg hxA,show (((0:Nat):Int))=0 from rfl] at hA
 have hall:=K5.1 hxA
 rw [hA]
 simp only [obs0]
 have stepB : ∀x,x<p.Below.length→Fc p x=some (if ∀i,i<(nth p.Below x).length→¬(nth (nth p.Below x) i≠x∧(x:Int)∈nth p.Below (nth (nth p.Below x) i).toNat) ∧ ∀z∈nth p.Below (nth (nth p.Below x) i).toNat,z∈nth p.Below x then .inl ((x+1:Nat):Int) else .inr (.inl ())):=by
  intro x hx
  unfold Fc
  rw [if_pos (by omega),A4y p h1 x hx (hall x hx).1]
  by_cases h2 : ∃i,0≤i∧i<(nth p.Below x).length∧¬(¬(nth (nth p.Below x) i≠x∧(x:Int)∈nth p.Below (nth (nth p.Below x) i).toNat) ∧ ∀z∈nth p.Below (nth (nth p.Below x) i).toNat,z∈nth p.Below x)
  ·rw [if_pos h2,if_neg]
   ·rfl
   ·intro hc;obtain ⟨i,_,hi,hd⟩:=h2;exact hd (hc i hi)
  ·rw [if_neg h2,if_pos (K5.1 h2)]
   simp only [obs0]
   rw [Ae (by unfold InI;omega)];rfl
 have hB:=Hc (body:=Fc p) (fun i=>(i:Int)) p.Below.length (fun x=>¬ ∀i,i<(nth p.Below x).length→¬(nth (nth p.Below x) i≠x∧(x:Int)∈nth p.Below (nth (nth p.Below x) i).toNat) ∧ ∀z∈nth p.Below (nth (nth p.Below x) i).toNat,z∈nth p.Below x) () () (fun x hx hb=>by
  rw [stepB x hx,if_pos (Classical.not_not.1 hb)]) (fun x hx hb=>by rw [stepB x hx,if_neg hb]) (by unfold Fc;rw [if_neg (by omega)]) 0 (by omega)
 refine (Ly hB false true).trans (congrArg some (Ww ?_))
 rw [K5]
 exact ⟨fun hh=>⟨hn,hall,hh⟩,fun hh=>hh.2.2⟩
theorem Aph (xs:List Int) (n:Nat):Ae2 xs 0 (n-1)↔R8 xs∧Fy xs n:=by
 constructor
 ·intro h
  refine ⟨fun i h1 h2=>(h i h2).2 h1,fun x hx=> ?_⟩
  obtain ⟨i,h1,rfl⟩:=Hu.1 hx
  have:=(h i h1).1
  omega
 ·rintro ⟨h1,h2⟩ i hi
  have:=h2 _ (Ba hi)
  exact ⟨by omega,fun h=>h1 i h hi⟩
theorem P4 (xss:List (List Int)):(A0k xss∧Am4 xss.length (below xss))↔good xss:=by
 constructor
 ·rintro ⟨⟨h1,h2⟩,h3⟩
  have hs : ∀x,x<xss.length→R8 (nth xss x)∧Fy (nth xss x) xss.length:=fun x hx=>h2 _ (Ba hx)
  refine ⟨h1,fun x hx=>⟨(Aph _ _).2 (hs x hx),by simpa [below] using (h3 x hx).1⟩,fun x hx i hi=> ?_⟩
  have hm:=Ba hi
  have hb:=(hs x hx).2 _ hm
  obtain ⟨y,hy⟩:=Int.eq_ofNat_of_zero_le hb.1
  rw [hy] at hm ⊢
  have hyn:y<xss.length:=by omega
  simp only [tna0]
  refine ⟨fun hc=> ?_,fun z hz=> ?_⟩
  ·refine ((h3 y hyn).2 x hx).1 ⟨fun e=>hc.1 (by rw [e]),by simpa [below] using hm,by simpa [below] using hc.2⟩
  ·have hzb:=(hs y hyn).2 z hz
   obtain ⟨w,rfl⟩:=Int.eq_ofNat_of_zero_le hzb.1
   have:=((h3 w (by omega)).2 y hyn).2 x hx (by simpa [below] using hz) (by simpa [below] using hm)
   simpa [below] using this
 ·rintro ⟨h1,h2,h3⟩
  refine ⟨⟨h1,fun r hr=> ?_⟩,fun x hx=>⟨by simpa [below] using (h2 x hx).2,fun y hy=>⟨?_,fun z hz a b=> ?_⟩⟩⟩
  ·obtain ⟨x,hx,rfl⟩:=Hu.1 hr
   exact (Aph _ _).1 (h2 x hx).1
  ·rintro ⟨a,b,c⟩
   obtain ⟨i,hi,he⟩:=Hu.1 (show (x:Int)∈nth xss y by simpa [below] using b)
   have:=(h3 y hy i hi).1
   rw [he] at this
   exact this ⟨by omega,by simpa [below] using c⟩
  ·obtain ⟨i,hi,he⟩:=Hu.1 (show (y:Int)∈nth xss z by simpa [below] using b)
   have:=(h3 z hz i hi).2
   rw [he] at this
   have:=this x (by simpa [below] using a)
   simpa [below] using this
theorem Hs (p:SPoset) (h0:p.Below.length≤LIM) (h1 : ∀r∈p.Below,r.length≤LIM) (hg:good p.Below):Bj p=some (tab p.Below.length (below p.Below),true):=by
 have hh:=(P4 _).2 hg
 rw [Arl p h0 h1,if_pos hh.1,dtr0 hh.2]
theorem Ark (p:SPoset) (h0:p.Below.length≤LIM) (h1 : ∀r∈p.Below,r.length≤LIM) (hg:¬good p.Below) : ∃o,Bj p=some (o,false):=by
 rw [Arl p h0 h1]
 by_cases hp:A0k p.Below
 ·rw [if_pos hp,dfa0]
  ·exact ⟨_,rfl⟩
  ·exact fun ho=>hg ((P4 _).1 ⟨hp,ho⟩)
 ·rw [if_neg hp];exact ⟨_,rfl⟩
end Go.Proofs.Ytpfikenknmlajaa.Ax
namespace Go.Proofs.Ytpfikenknmlajaa.Ax
open Go Classical
def small (p:SPoset):Prop:=p.Below.length≤LIM ∧ ∀r∈p.Below,r.length≤LIM
def read (p:SPoset):Prop:=p.Below.length≤BIG ∧ ∀r∈p.Below,r.length≤BIG
end Go.Proofs.Ytpfikenknmlajaa.Ax
namespace Go.Proofs.Ytpfikenknmlajaa.Ax
open Go Classical
def Al (n:Nat) (p:Nat→Bool):List Int:=((List.range n).filter p).map fun i:Nat=>(i:Int)
theorem Ace {n:Nat} {p q:Nat→Bool} (h : ∀i,i<n→p i=q i):Al n p=Al n q:=by
 unfold Al
 congr 1
 exact List.filter_congr fun i hi=>h i (List.mem_range.1 hi)
theorem Rb (n:Nat) (p:Nat→Bool):Al (n+1) p=if p n then Al n p++[(n:Int)] else Al n p:=by
 unfold Al
 rw [List.range_succ,List.filter_append,List.map_append]
 by_cases h:p n<;>simp [h]
theorem G9 (n:Nat) (p:Nat→Bool):(Al n p).length≤n:=by
 unfold Al
 rw [List.length_map]
 exact Nat.le_trans (List.length_filter_le _ _) (by simp)
theorem Dv {n:Nat} {p:Nat→Bool} {x:Int}:x∈Al n p ↔ ∃i:Nat,i<n∧p i=true∧x=i:=by
 unfold Al
 rw [List.mem_map]
 constructor
 ·rintro ⟨i,hi,rfl⟩
  have:=List.mem_filter.1 hi
  exact ⟨i,List.mem_range.1 this.1,this.2,rfl⟩
 ·rintro ⟨i,h1,h2,rfl⟩
  exact ⟨i,List.mem_filter.2 ⟨List.mem_range.2 h1,h2⟩,rfl⟩
theorem Tf {n:Nat} {p:Nat→Bool}:Al n p=[] ↔ ∀i,i<n→p i=false:=by
 constructor
 ·intro h i hi
  cases hp:p i with
  | false=>rfl
  | true=>
    have:(i:Int)∈Al n p:=Dv.2 ⟨i,hi,hp,rfl⟩
    rw [h] at this;cases this
 ·intro h
  refine List.eq_nil_iff_forall_not_mem.2 fun x hx=> ?_
  obtain ⟨i,h1,h2,_⟩:=Dv.1 hx
  rw [h i h1] at h2;cases h2
theorem Aar {body:(Int×List Int)→Option ((Int×List Int) ⊕ List Int)} (n:Nat) (p:Nat→Bool)
  (h : ∀(i:Nat) acc,i<n→acc.length≤i→body ((i:Int),acc)=some (.inl (((i+1:Nat):Int),if p i then acc++[(i:Int)] else acc)))
  (he : ∀acc,body ((n:Int),acc)=some (.inr acc)):Aj body (0,Ar Int)=some (Al n p):=by
 have:=Az (body:=body) (fun i=>((i:Int),Al i p)) n (Al n p) (fun i hi=>by
  rw [h i _ hi (G9 i p),Rb]) (he _)
 have e:Al 0 p=Ar Int:=rfl
 simp only [e] at this
 exact this
theorem At0 {o:List (List Bool)} {so:Int→Option Bool} {n:Nat} {p:Nat→Bool} (hn:o.length=n) (hl:n≤LIM) (h : ∀i,i<n→so (i:Int)=some (p i)):Ej o so=some (Al n p):=by
 unfold Ej
 rw [Ao] at hl
 rw [Aar n p (fun i acc hi ha=>by
  unfold Ft
  dsimp only
  rw [if_pos (by omega),h i hi]
  simp only [obs0]
  by_cases hp:p i=true
  ·rw [if_pos hp,if_pos hp,Ae (by rw [Ao];simp;omega),Ae (by unfold InI;omega)];rfl
  ·rw [if_neg hp,if_neg hp,Ae (by unfold InI;omega)];rfl) (fun acc=>by
  unfold Ft
  dsimp only
  rw [if_neg (by omega)])]
 rfl
theorem Ay0 {o:List (List Bool)} {so:Int→Option Bool} {n:Nat} {p:Nat→Bool} (hn:o.length=n) (hl:n≤LIM) (h : ∀i,i<n→so (i:Int)=some (p i)):E6 o so=some (decide (∀i,i<n→p i=false)):=by
 unfold E6
 rw [At0 hn hl h]
 simp only [obs0]
 congr 1
 by_cases hs:Al n p=[]
 ·rw [dtr0 (Tf.1 hs),hs];rfl
 ·rw [dfa0 (fun hc=>hs (Tf.2 hc))]
  have:(Al n p).length≠0:=fun hc=>hs (List.length_eq_zero_iff.1 hc)
  simp only [beq_eq_false_iff_ne,ne_eq]
  omega
theorem M6 (n:Nat) (f:Nat→Nat→Bool) (x y:Nat) (hx:x<n) (hy:y<n):Au (tab n f) x y=some (decide (x≠y)&&f x y):=by
 unfold Au
 have tl:=Bw n f
 have rl:=Abv n f x hx
 by_cases h:x=y
 ·subst h;simp
 ·rw [if_pos (by omega),Ae (by omega),Ae (by omega),Ah5 n f x y hx hy]
  simp [h]
section
variable {p:SPoset}
theorem Yf (hg:good p.Below) (x:Nat) (hx:x<p.Below.length):R8 (nth p.Below x)∧Fy (nth p.Below x) p.Below.length:=by
 have:=(P4 _).2 hg
 exact this.1.2 _ (Ba hx)
theorem Ajv (hg:good p.Below) (x:Nat) (hx:x<p.Below.length):below p.Below x x=true:=((P4 _).2 hg).2 x hx |>.1
theorem Ac8 (hg:good p.Below) (x y:Nat) (hx:x<p.Below.length) (hy:y<p.Below.length) (h1:below p.Below x y=true) (h2:below p.Below y x=true):x=y:=by
 have:=((((P4 _).2 hg).2 x hx).2 y hy).1
 exact Classical.byContradiction fun hc=>this ⟨hc,h1,h2⟩
theorem Aaa (hg:good p.Below) (x y z:Nat) (hx:x<p.Below.length) (hy:y<p.Below.length) (hz:z<p.Below.length) (h1:below p.Below x y=true) (h2:below p.Below y z=true):below p.Below x z=true:=
 ((((P4 _).2 hg).2 x hx).2 y hy).2 z hz h1 h2
theorem Aiv {xs:List Int} (h:R8 xs) : ∀ {j i:Nat},i<j→j<xs.length→nth xs i<nth xs j:=by
 intro j
 induction j with
 | zero=>intro i hi;omega
 | succ j ih=>
   intro i hi hj
   have:=h (j+1) (by omega) hj
   rw [Nat.add_sub_cancel] at this
   by_cases hij:i=j
   ·subst hij;exact this
   ·exact Int.lt_trans (ih (by omega) (by omega)) this
theorem Adh : ∀ {xs ys:List Int},R8 xs→R8 ys→(∀x,x∈xs↔x∈ys)→xs=ys:=by
 have tl : ∀ {x:Int} {xs:List Int},R8 (x::xs)→R8 xs:=by
  intro x xs h i h1 h2
  have:=h (i+1) (by omega) (by simpa using h2)
  rw [Nat.add_sub_cancel] at this
  have e1:nth (x::xs) (i+1)=nth xs i:=rfl
  have e2:nth (x::xs) i=nth xs (i-1):=by
   cases i with
   | zero=>omega
   | succ i=>rfl
  rw [e1,e2] at this;exact this
 have hd : ∀ {x:Int} {xs:List Int},R8 (x::xs) → ∀y∈xs,x<y:=by
  intro x xs h y hy
  obtain ⟨i,hi,rfl⟩:=Hu.1 hy
  exact Aiv h (i:=0) (j:=i+1) (by omega) (by simpa using hi)
 intro xs
 induction xs with
 | nil=>
   intro ys _ _ h
   cases ys with
   | nil=>rfl
   | cons y r=>have:=(h y).2 (by simp);cases this
 | cons x r ih=>
   intro ys h1 h2 h
   cases ys with
   | nil=>have:=(h x).1 (by simp);cases this
   | cons y s=>
     have e:x=y:=by
      have a:=(h x).1 (by simp)
      have b:=(h y).2 (by simp)
      rcases List.mem_cons.1 a with a | a
      ·exact a
      ·rcases List.mem_cons.1 b with b | b
       ·exact b.symm
       ·have:=hd h2 _ a;have:=hd h1 _ b;omega
     subst e
     congr 1
     refine ih (tl h1) (tl h2) fun z=> ?_
     constructor
     ·intro hz
      rcases List.mem_cons.1 ((h z).1 (by simp [hz])) with e | e
      ·subst e;have:=hd h1 _ hz;omega
      ·exact e
     ·intro hz
      rcases List.mem_cons.1 ((h z).2 (by simp [hz])) with e | e
      ·subst e;have:=hd h2 _ hz;omega
      ·exact e
theorem K8 (n:Nat) (q:Nat→Bool):R8 (Al n q):=by
 induction n with
 | zero=>intro i h1 h2;simp [Al] at h2
 | succ n ih=>
   rw [Rb]
   split
   ·intro i h1 h2
    by_cases hi:i<(Al n q).length
    ·rw [Ss hi,Ss (by omega)];exact ih i h1 hi
    ·have hi2:i=(Al n q).length:=by simp at h2;omega
     subst hi2
     rw [Amq,Ss (by omega)]
     obtain ⟨k,hk,_,e⟩:=Dv.1 (Ba (xs:=Al n q) (i:=(Al n q).length-1) (by omega))
     rw [e];omega
   ·exact ih
theorem A4o (hg:good p.Below) (x:Nat) (hx:x<p.Below.length):nth p.Below x=Al p.Below.length fun y=>below p.Below y x:=by
 obtain ⟨h1,h2⟩:=Yf hg x hx
 refine Adh h1 (K8 _ _) fun z=> ?_
 rw [Dv]
 constructor
 ·intro hz
  obtain ⟨k,hk⟩:=Int.eq_ofNat_of_zero_le (h2 z hz).1
  have:=(h2 z hz).2
  exact ⟨k,by omega,by rw [hk] at hz;simpa [below] using hz,hk⟩
 ·rintro ⟨k,_,hb,rfl⟩
  simpa [below] using hb
theorem Ayo {q:SPoset} (hl:p.Below.length=q.Below.length) (h : ∀x,x<p.Below.length→nth p.Below x=nth q.Below x):p=q:=by
 have:p.Below=q.Below:=Px hl h
 cases p;cases q;simp_all
end
theorem Apl {p:SPoset} (hs:small p) (x y:Nat) (hy:y<p.Below.length):Gc p x y=some (below p.Below x y):=by
 unfold Gc
 rw [Ae (by omega)]
 simp only [tna0]
 rw [Adc _ _ (hs.2 _ (Ba hy))]
 simp only [obs0,below]
theorem A7f (o:List (List Bool)) (xs:List Int) (h:xs.length≤LIM):F4 o xs=some (decide (Fy xs o.length)):=by
 unfold F4
 rw [Apa _ _ h];rfl
theorem Ard {p:SPoset} (hg:good p.Below) (x:Nat) (hx:x<p.Below.length):(nth p.Below x).length=1 ↔ ∀y,y<p.Below.length→¬(y≠x∧below p.Below y x=true):=by
 have hr:=Ajv hg x hx
 have hm:(x:Int)∈nth p.Below x:=by simpa [below] using hr
 constructor
 ·intro h1 y hy hc
  have hmy:(y:Int)∈nth p.Below x:=by simpa [below] using hc.2
  obtain ⟨z,hz⟩:=List.length_eq_one_iff.1 h1
  rw [hz] at hm hmy
  simp at hm hmy
  omega
 ·intro h
  have e:nth p.Below x=[(x:Int)]:=by
   refine Adh (Yf hg x hx).1 (by intro i h1 h2;simp at h2;omega) fun z=> ?_
   rw [List.mem_singleton]
   constructor
   ·intro hz
    obtain ⟨h1,h2⟩:=(Yf hg x hx).2 z hz
    obtain ⟨k,rfl⟩:=Int.eq_ofNat_of_zero_le h1
    have:=h k (by omega)
    have hb:below p.Below k x=true:=by simpa [below] using hz
    have:k=x:=Classical.byContradiction fun hc=>this ⟨hc,hb⟩
    rw [this]
   ·rintro rfl;exact hm
  rw [e];rfl
end Go.Proofs.Ytpfikenknmlajaa.Ax
namespace Go.Proofs.Ytpfikenknmlajaa.Ax
open Go Classical
theorem Cg (n:Int):InI n ↔ -9223372036854775808≤n∧n≤9223372036854775807:=Iff.rfl
section
variable {p:SPoset}
noncomputable def Kl (p:SPoset):SPoset:=⟨(List.range p.Below.length).map fun x=>Al p.Below.length fun y=>below p.Below x y⟩
theorem Fb:(Kl p).Below.length=p.Below.length:=by simp [Kl]
theorem Ag6 {x:Nat} (hx:x<p.Below.length):nth (Kl p).Below x=Al p.Below.length fun y=>below p.Below x y:=by
 unfold Kl
 dsimp only
 rw [K2 _ (by simpa using hx),I7 hx]
theorem Hf {x y:Nat} (hx:x<p.Below.length) (hy:y<p.Below.length):below (Kl p).Below y x=below p.Below x y:=by
 rw [Bool.eq_iff_iff]
 rw [show (below (Kl p).Below y x=true↔(y:Int)∈nth (Kl p).Below x) from by simp [below],Ag6 hx,Dv]
 constructor
 ·rintro ⟨i,_,h,e⟩
  have:i=y:=by omega
  subst this;exact h
 ·intro h;exact ⟨y,hy,h,rfl⟩
theorem Afv (hs:small p):small (Kl p):=by
 refine ⟨by rw [Fb];exact hs.1,fun r hr=> ?_⟩
 obtain ⟨i,hi,rfl⟩:=Hu.1 hr
 rw [Fb] at hi
 rw [Ag6 hi]
 exact Nat.le_trans (G9 _ _) hs.1
theorem Y9 (hg:good p.Below):good (Kl p).Below:=by
 have hp:=(P4 _).2 hg
 refine (P4 _).1 ⟨⟨by rw [Fb];exact hp.1.1,fun r hr=> ?_⟩,fun x hx=> ?_⟩
 ·obtain ⟨i,hi,rfl⟩:=Hu.1 hr
  rw [Fb] at hi ⊢
  rw [Ag6 hi]
  refine ⟨K8 _ _,fun z hz=> ?_⟩
  obtain ⟨k,hk,_,rfl⟩:=Dv.1 hz
  omega
 ·rw [Fb] at hx
  refine ⟨by rw [Hf hx hx];exact Ajv hg x hx,fun y hy=> ?_⟩
  rw [Fb] at hy
  refine ⟨?_,fun z hz=> ?_⟩
  ·rw [Hf hx hy,Hf hy hx]
   rintro ⟨h1,h2,h3⟩
   exact h1 (Ac8 hg x y hx hy h3 h2)
  ·rw [Fb] at hz
   rw [Hf hy hx,Hf hz hy,Hf hz hx]
   intro h1 h2
   exact Aaa hg z y x hz hy hx h2 h1
theorem Arr (hg:good p.Below):Kl (Kl p)=p:=by
 refine Ayo (by rw [Fb,Fb]) fun x hx=> ?_
 rw [Fb,Fb] at hx
 rw [Ag6 (by rw [Fb];exact hx),Fb,A4o hg x hx]
 exact Ace fun i hi=>by rw [Hf hi hx]
theorem A0s (hs:small p):Ku p=some (Kl p):=by
 have h0:=hs.1
 rw [Ao] at h0
 unfold Ku
 have:=Az (body:=Gr p) (fun i=>((i:Int),(⟨(List.range i).map fun x=>Al p.Below.length fun y=>below p.Below x y⟩:SPoset))) p.Below.length (Kl p) (fun i hi=>by
  unfold Gr
  have e:=Aar (body:=Gn p (i:Int) ⟨(List.range i).map fun x=>Al p.Below.length fun y=>below p.Below x y⟩) p.Below.length (fun y=>below p.Below i y) (fun j acc hj ha=>by
   unfold Gn
   by_cases hb:below p.Below i j=true<;>simp (disch:=omega) only [Ae,if_pos,if_true,if_false,Cg,Ao,List.length_cons,List.length_nil,Int.natCast_add,Int.natCast_one,obs0,Bool.false_eq_true,Apl hs i j hj,hb]<;>rfl) (fun acc=>by
   unfold Gn
   simp (disch:=omega) only [Ae,if_pos,if_neg,Cg,Ao,List.length_cons,List.length_nil])
  simp (disch:=omega) only [Ae,if_pos,Cg,Ao,List.length_cons,List.length_nil,Int.natCast_add,Int.natCast_one,obs0,e,List.length_map,List.length_range,List.range_succ,List.map_append,List.map_cons,List.map_nil]) (by
  unfold Gr
  simp (disch:=omega) only [Ae,if_neg,Cg,Ao,List.length_cons,List.length_nil]
  rfl)
 have e0:(((0:Nat):Int),(⟨(List.range 0).map fun x=>Al p.Below.length fun y=>below p.Below x y⟩:SPoset))=(0,{ Below:=Ar (List Int) }):=rfl
 simp only [e0] at this
 rw [this]
 rfl
end
def Ajb (n:Nat) (f:Nat→Bool):List Bool:=(List.range n).map f
theorem Am6 (n:Nat) (f:Nat→Bool):(Ajb n f).length=n:=by simp [Ajb]
theorem Agr {n:Nat} {f:Nat→Bool} {i:Nat} (h:i<n):nth (Ajb n f) i=f i:=by
 unfold Ajb;rw [K2 _ (by simpa using h),I7 h]
theorem A2q {n:Nat} {f:Nat→Bool} {i:Nat} {v:Bool} (_h:i<n):(Ajb n f).set i v=Ajb n fun j=>if j=i then v else f j:=by
 refine Px (by simp [Ajb]) fun j hj=> ?_
 have hj':j<n:=by simpa [Ajb] using hj
 rw [Bm _ _ _ _ (by rw [Am6];exact hj'),Agr hj',Agr hj']
 by_cases e:i=j
 ·rw [if_pos e,if_pos e.symm]
 ·rw [if_neg e,if_neg (Ne.symm e)]
theorem Anu {n:Nat} {f g:Nat→Bool} (h : ∀i,i<n→f i=g i):Ajb n f=Ajb n g:=List.map_congr_left fun i hi=>h i (List.mem_range.1 hi)
theorem Ay2 (n:Nat):List.replicate n false=Ajb n fun _=>false:=by
 refine Px (by simp [Ajb]) fun j hj=> ?_
 have hj':j<n:=by simpa using hj
 rw [Agr hj',Bh _ hj']
theorem As7 (n:Nat) (xs:List Int) (h:xs.length≤LIM) (hn:n≤LIM):Ik n xs=some (decide (Fy xs n)):=by
 unfold Ik
 rw [Ao] at h hn
 have e:=Hc (body:=Dg n xs) (fun i=>(i:Int)) xs.length (fun i=>¬(0≤nth xs i∧nth xs i<n)) () () (fun i hi hb=>by
  have hc:0≤nth xs i∧nth xs i≤n-1:=by have:=Classical.not_not.1 hb;omega
  unfold Dg
  simp (disch:=omega) only [Ae,if_pos,if_true,Cg,tna0,Int.natCast_add,Int.natCast_one,obs0,Atb,hc,and_self,decide_true]) (fun i hi hb=>by
  have hc:¬(0≤nth xs i∧nth xs i≤n-1):=fun hh=>hb (by omega)
  unfold Dg
  simp (disch:=omega) only [Ae,if_pos,if_false,Cg,tna0,obs0,Bool.false_eq_true,Atb,hc,decide_false]) (by
  unfold Dg
  simp (disch:=omega) only [Ae,if_pos,if_neg,Cg,tna0]) 0 (Nat.zero_le _)
 refine (Ly e false true).trans ?_
 congr 1
 refine Ww ?_
 rw [K5]
 constructor
 ·intro hh x hx
  obtain ⟨i,hi,rfl⟩:=Hu.1 hx
  exact hh i hi
 ·intro hh i hi
  exact hh _ (Ba hi)
end Go.Proofs.Ytpfikenknmlajaa.Ax
namespace Go.Proofs.Ytpfikenknmlajaa.Ax
open Go Classical
theorem L0 {σ τ:Type} {body:σ→Option (σ ⊕ τ)} (s:Nat→σ) (n:Nat) (hit:Nat→Prop) (res:Nat→τ) (no:τ)
  (h : ∀i,i<n→¬hit i→body (s i)=some (.inl (s (i+1)))) (h2 : ∀i,i<n→hit i→body (s i)=some (.inr (res i))) (he:body (s n)=some (.inr no)) :
  (∃i,i<n∧hit i∧(∀j,j<i→¬hit j)∧Aj body (s 0)=some (res i))∨((∀i,i<n→¬hit i)∧Aj body (s 0)=some no):=by
 by_cases hx : ∃i,i<n∧hit i
 ·have key : ∀m i,i≤m→i<n→hit i → ∃i,i<n∧hit i ∧ ∀j,j<i→¬hit j:=by
   intro m
   induction m with
   | zero=>intro i h1 h2 h3;exact ⟨i,h2,h3,fun j hj=>by omega⟩
   | succ m ih=>
     intro i h1 h2 h3
     by_cases hy : ∃j,j<i∧hit j
     ·obtain ⟨j,h4,h5⟩:=hy
      exact ih j (by omega) (by omega) h5
     ·exact ⟨i,h2,h3,fun j hj hh=>hy ⟨j,hj,hh⟩⟩
  obtain ⟨i0,h1,h3⟩:=hx
  obtain ⟨i,h4,h5,h6⟩:=key i0 i0 (Nat.le_refl _) h1 h3
  exact .inl ⟨i,h4,h5,h6,Az s i (res i) (fun j hj=>h j (by omega) (h6 j hj)) (h2 i h4 h5)⟩
 ·have hn : ∀i,i<n→¬hit i:=fun i hi hh=>hx ⟨i,hi,hh⟩
  exact .inr ⟨hn,Az s n no (fun j hj=>h j hj (hn j hj)) he⟩
structure Ord (n:Nat) (f:Nat→Nat→Bool):Prop where
 refl : ∀x,x<n→f x x=true
 anti : ∀x y,x<n→y<n→f x y=true→f y x=true→x=y
 trans : ∀x y z,x<n→y<n→z<n→f x y=true→f y z=true→f x z=true
def opp (f:Nat→Nat→Bool):Nat→Nat→Bool:=fun x y=>f y x
theorem Ord.opp {n:Nat} {f:Nat→Nat→Bool} (h:Ord n f):Ord n (opp f):=
 ⟨h.refl,fun x y hx hy h1 h2=>h.anti x y hx hy h2 h1,fun x y z hx hy hz h1 h2=>h.trans z y x hz hy hx h2 h1⟩
theorem Aoi {p:SPoset} (hg:good p.Below):Ord p.Below.length (below p.Below):=⟨Ajv hg,Ac8 hg,Aaa hg⟩
section
variable {n:Nat} {f:Nat→Nat→Bool} {L:Nat→Bool}
end
noncomputable def cov (n:Nat) (f:Nat→Nat→Bool) (x y:Nat):Bool:=decide ((x≠y∧f x y=true) ∧ ∀z,z<n→¬((x≠z∧f x z=true)∧(z≠y∧f z y=true)))
end Go.Proofs.Ytpfikenknmlajaa.Ax
namespace Go.Proofs.Ytpfikenknmlajaa.Ax
open Go Classical
theorem Aie {xs:List Int} {P:Int→Prop} {i:Nat} (hi:i<xs.length):(∀x∈xs.take (i+1),P x)↔(∀x∈xs.take i,P x)∧P (nth xs i):=by
 rw [Ya hi]
 constructor
 ·intro h
  exact ⟨fun x hx=>h x (by simp [hx]),h _ (by simp)⟩
 ·rintro ⟨h1,h2⟩ x hx
  rcases List.mem_append.1 hx with hx | hx
  ·exact h1 x hx
  ·simp only [List.mem_singleton] at hx;subst hx;exact h2
section
variable {p:SPoset}
theorem Ar8 (y x:Nat):(y:Int)∈nth p.Below x↔below p.Below y x=true:=by simp [below]
end
section
variable {n:Nat} {f:Nat→Nat→Bool}
def Aid (f:Nat→Nat→Bool) (x y:Nat):Nat→Nat→Bool:=fun a b=>if a<x∨(a=x∧b<y) then f b a else false
theorem A7b (hn:n≤LIM) (x:Nat) (hx:x<n):Aj (Dn (tab n f) (x:Int)) (0,tab n (Aid f x 0))=some (tab n (Aid f (x+1) 0)):=by
 have htl:=Bw n f
 have hn':=hn
 rw [Ao] at hn'
 refine Az (body:=Dn (tab n f) (x:Int)) (fun y=>((y:Int),tab n (Aid f x y))) n _ (fun y hy=> ?_) ?_
 ·unfold Dn
  dsimp only
  have h1:=Bw n (Aid f x y)
  have h2:=Gk n f y hy
  have h3:=Gk n (Aid f x y) x hx
  simp (disch:=omega) only [Ae,if_pos,Cg,tna0,Int.natCast_add,Int.natCast_one,htl,h1,h2,h3]
  rw [Afl n f y x hy hx,Att n _ x y _ hx hy]
  congr 4
  funext a b
  unfold Aid
  by_cases hab:a=x∧b=y
  ·obtain ⟨rfl,rfl⟩:=hab
   simp
  ·rw [if_neg hab]
   have:(a<x∨a=x∧b<y)↔(a<x∨a=x∧b<y+1):=by omega
   simp only [this]
 ·unfold Dn
  dsimp only
  rw [if_neg (by omega)]
  congr 2
  refine Tj fun a b ha hb=> ?_
  unfold Aid
  have:(a<x∨a=x∧b<n)↔(a<x+1∨a=x+1∧b<0):=by omega
  simp only [this]
theorem Atu (hn:n≤LIM):Ij (tab n f)=some (tab n (opp f)):=by
 unfold Ij
 have htl:=Bw n f
 rw [htl,Agi n hn]
 simp only [obs0]
 have hn':=hn
 rw [Ao] at hn'
 have key:Aj (Dh (tab n f)) (((0:Nat):Int),tab n (Aid f 0 0))=some (tab n (Aid f n 0)):=
  Az (body:=Dh (tab n f)) (fun x=>((x:Int),tab n (Aid f x 0))) n _ (fun x hx=>by
   unfold Dh
   dsimp only
   rw [if_pos (by omega),A7b hn x hx]
   simp only [obs0]
   rw [Ae (by unfold InI;omega)];rfl) (by
   unfold Dh
   dsimp only
   rw [if_neg (by omega)])
 have e0:tab n (Aid f 0 0)=tab n fun _ _=>false:=Tj fun a b _ _=>by simp [Aid]
 have e1:tab n (Aid f n 0)=tab n (opp f):=Tj fun a b ha _=>by simp [Aid,opp,ha]
 rw [e0,e1] at key
 rw [show ((0:Int))=(((0:Nat)):Int) from rfl,key];rfl
end
section
variable {p:SPoset}
end
end Go.Proofs.Ytpfikenknmlajaa.Ax
namespace Go.Proofs.Ytpfikenknmlajaa.Ax
open Go Classical
def G0 (n:Nat) (f:Nat→Nat→Bool):SPoset:=⟨(List.range n).map fun x=>Al n fun y=>f y x⟩
def Z1 (n:Nat) (f:Nat→Nat→Bool) (i:Nat):List (List Int):=(List.range i).map fun x=>Al n fun y=>f y x
theorem Ak4 (n:Nat) (f:Nat→Nat→Bool) (i:Nat):Z1 n f (i+1)=Z1 n f i++[Al n fun y=>f y i]:=by simp [Z1,List.range_succ]
theorem Anh (n:Nat) (f:Nat→Nat→Bool) (i:Nat):(Z1 n f i).length=i:=by simp [Z1]
section
variable {n:Nat} {f:Nat→Nat→Bool}
theorem Re:(G0 n f).Below.length=n:=by simp [G0]
theorem Adb {x:Nat} (hx:x<n):nth (G0 n f).Below x=Al n fun y=>f y x:=by
 unfold G0
 rw [K2 _ (by simpa using hx),I7 hx]
theorem An3 (r:List Int) (hr:r∈(G0 n f).Below):r.length≤n:=by
 simp only [G0,List.mem_map,List.mem_range] at hr
 obtain ⟨x,_,rfl⟩:=hr
 exact G9 _ _
theorem Akx {x y:Nat} (hx:x<n) (hy:y<n):below (G0 n f).Below y x=f y x:=by
 unfold below
 rw [Adb hx]
 cases h:f y x with
 | true=>exact dtr0 (Dv.2 ⟨y,hy,h,rfl⟩)
 | false=>
   refine dfa0 fun hm=> ?_
   obtain ⟨z,_,h2,h3⟩:=Dv.1 hm
   have:z=y:=by omega
   subst this
   rw [h] at h2;cases h2
theorem Au0 (hn:n≤10):A0k (G0 n f).Below:=by
 refine ⟨by rw [Re];exact hn,fun r hr=> ?_⟩
 rw [Re]
 simp only [G0,List.mem_map,List.mem_range] at hr
 obtain ⟨x,_,rfl⟩:=hr
 refine ⟨K8 _ _,fun y hy=> ?_⟩
 obtain ⟨z,h1,_,rfl⟩:=Dv.1 hy
 omega
theorem Ak9 {g:Nat→Nat→Bool} (h : ∀x y,x<n→y<n→f x y=g x y) (hf:Am4 n f):Am4 n g:=by
 intro x hx
 obtain ⟨h1,h2⟩:=hf x hx
 refine ⟨by rw [←h x x hx hx];exact h1,fun y hy=> ?_⟩
 obtain ⟨h3,h4⟩:=h2 y hy
 refine ⟨by rw [←h x y hx hy,←h y x hy hx];exact h3,fun z hz=> ?_⟩
 rw [←h x y hx hy,←h y z hy hz,←h x z hx hz]
 exact h4 z hz
theorem Axt (hn:n≤10):good (G0 n f).Below↔Am4 n f:=by
 rw [←P4]
 have hl:(G0 n f).Below.length=n:=Re
 constructor
 ·rintro ⟨_,h⟩
  rw [hl] at h
  exact Ak9 (fun x y hx hy=>Akx hy hx) h
 ·intro h
  refine ⟨Au0 hn,?_⟩
  rw [hl]
  exact Ak9 (fun x y hx hy=>(Akx hy hx).symm) h
theorem Aep (hn:n≤LIM):F1 (tab n f)=some (G0 n f):=by
 unfold F1
 have htl:=Bw n f
 have hn':=hn
 rw [Ao] at hn'
 have inner : ∀x,x<n → ∀acc,Aj (Da (tab n f) (x:Int) acc) (0,Ar Int)=some (Al n fun y=>f y x):=by
  intro x hx acc
  refine Aar (body:=Da (tab n f) (x:Int) acc) n (fun y=>f y x) (fun y acc2 hy ha=> ?_) (fun acc2=> ?_)
  ·unfold Da
   dsimp only
   have h2:=Gk n f y hy
   rw [if_pos (by omega),Ae (by omega),tna0,Ae (by omega),tna0,Afl n f y x hy hx]
   by_cases hf:f y x=true
   ·rw [if_pos hf,if_pos hf]
    simp (disch:=omega) only [Ae,Cg,Ao,List.length_cons,List.length_nil,Int.natCast_add,Int.natCast_one]
   ·rw [if_neg hf,if_neg hf]
    simp (disch:=omega) only [Ae,Cg,Int.natCast_add,Int.natCast_one]
  ·unfold Da
   dsimp only
   rw [if_neg (by omega)]
 have key:Aj (Db (tab n f)) (((0:Nat):Int),(⟨Z1 n f 0⟩:SPoset))=some (G0 n f):=
  Az (body:=Db (tab n f)) (fun x=>((x:Int),(⟨Z1 n f x⟩:SPoset))) n _ (fun x hx=>by
   unfold Db
   dsimp only
   have hl:=Anh n f x
   rw [if_pos (by omega),inner x hx]
   simp only [obs0]
   rw [Ae (by rw [Ao];simp;omega),Ae (by unfold InI;omega),Ak4]
   rfl) (by
   unfold Db
   dsimp only
   rw [if_neg (by omega)]
   rfl)
 rw [show (((0:Int),(⟨Ar (List Int)⟩:SPoset)))=((((0:Nat)):Int),(⟨Z1 n f 0⟩:SPoset)) from rfl,key];rfl
end
end Go.Proofs.Ytpfikenknmlajaa.Ax
namespace Go.Proofs.Ytpfikenknmlajaa.Ax
open Go Classical
section
variable {p:SPoset}
theorem A5y {x y:Int} {n:Nat}:Fy [x,y] n↔(0≤x∧x<n)∧0≤y∧y<n:=by
 unfold Fy
 simp only [List.mem_cons,List.not_mem_nil,or_false,forall_eq_or_imp,forall_eq]
end
section
variable {n:Nat} {f:Nat→Nat→Bool}
end
section
variable {p:SPoset}
end
end Go.Proofs.Ytpfikenknmlajaa.Ax
namespace Go.Proofs.Ytpfikenknmlajaa.Ax
open Go Classical
section
variable {p:SPoset}
theorem ltB (f:Nat→Nat→Bool) (x y:Nat):(decide (x≠y)&&f x y)=true↔(x≠y∧f x y=true):=by simp
theorem A2e {n:Nat} {f:Nat→Nat→Bool} (hn:n≤LIM) (x y:Nat) (hx:x<n) (hy:y<n):G2 (tab n f) x y=some (cov n f x y):=by
 unfold G2
 rw [M6 n f x y hx hy]
 simp only [obs0]
 rw [Ao] at hn
 have htl:=Bw n f
 by_cases h:x≠y∧f x y=true
 ·rw [if_pos ((ltB _ _ _).2 h)]
  rcases L0 (body:=C4 (tab n f) (x:Int) (y:Int)) (fun z=>(z:Int)) n (fun z=>(x≠z∧f x z=true)∧(z≠y∧f z y=true)) (fun _=> .inl ()) (.inr ()) (fun z hz hh=>by
    unfold C4
    rw [if_pos (by omega),M6 n f x z hx hz]
    simp only [obs0]
    by_cases h1:x≠z∧f x z=true
    ·rw [if_pos ((ltB _ _ _).2 h1),M6 n f z y hz hy]
     simp only [obs0]
     rw [if_neg (fun hc=>hh ⟨h1,(ltB _ _ _).1 hc⟩),Ae (by unfold InI;omega)];rfl
    ·rw [if_neg (fun hc=>h1 ((ltB _ _ _).1 hc)),Ae (by unfold InI;omega)];rfl) (fun z hz hh=>by
    unfold C4
    rw [if_pos (by omega),M6 n f x z hx hz]
    simp only [obs0]
    rw [if_pos ((ltB _ _ _).2 hh.1),M6 n f z y hz hy]
    simp only [obs0]
    rw [if_pos ((ltB _ _ _).2 hh.2)]) (by
    unfold C4
    rw [if_neg (by omega)]) with ⟨z,hz,hh,_,e⟩ | ⟨hn,e⟩
  ·rw [show ((0:Int))=(((0:Nat)):Int) from rfl,e]
   unfold cov
   rw [dfa0 (fun hc=>hc.2 z hz hh)];rfl
  ·rw [show ((0:Int))=(((0:Nat)):Int) from rfl,e]
   unfold cov
   rw [dtr0 ⟨h,hn⟩];rfl
 ·rw [if_neg (fun hc=>h ((ltB _ _ _).1 hc))]
  unfold cov
  rw [dfa0 (fun hc=>h hc.1)]
noncomputable def irr (n:Nat) (f:Nat→Nat→Bool):List Int:=Al n fun y=>decide ((Al n fun x=>cov n f x y).length=1)
end
end Go.Proofs.Ytpfikenknmlajaa.Ax
namespace Go.Proofs.Ytpfikenknmlajaa.Ax
open Go Classical
noncomputable def Wz (n:Nat) (f:Nat→Nat→Bool) (x:Nat) (acc:List (Int×Int)):Nat→List (Int×Int)
 | 0=>acc
 | y+1=>if cov n f x y then Wz n f x acc y++[((x:Int),(y:Int))] else Wz n f x acc y
noncomputable def Gy (n:Nat) (f:Nat→Nat→Bool):Nat→List (Int×Int)
 | 0=>[]
 | x+1=>Wz n f x (Gy n f x) n
theorem Ar9 (n:Nat) (f:Nat→Nat→Bool) (x:Nat) (acc:List (Int×Int)) : ∀y,(Wz n f x acc y).length≤acc.length+y:=by
 intro y
 induction y with
 | zero=>simp [Wz]
 | succ y ih=>
   simp only [Wz]
   split
   ·simp;omega
   ·omega
theorem A1u (n:Nat) (f:Nat→Nat→Bool) : ∀x,(Gy n f x).length≤x*n:=by
 intro x
 induction x with
 | zero=>simp [Gy]
 | succ x ih=>
   have:=Ar9 n f x (Gy n f x) n
   simp only [Gy]
   rw [Nat.succ_mul];omega
section
variable {p:SPoset}
theorem As6 {n:Nat} {f:Nat→Nat→Bool} (h10:n≤10):Eo (tab n f)=some (Gy n f n):=by
 unfold Eo
 have htl:=Bw n f
 have hL:n≤LIM:=by rw [Ao];omega
 have hrow : ∀x,x<n→Aj (B4 (tab n f) (x:Int)) (0,Gy n f x)=some (Gy n f (x+1)):=by
  intro x hx
  have hal:=A1u n f x
  have hm:x*n≤10*10:=Nat.mul_le_mul (by omega) h10
  refine Az (body:=B4 (tab n f) (x:Int)) (fun y=>((y:Int),Wz n f x (Gy n f x) y)) n _ (fun y hy=> ?_) ?_
  ·unfold B4
   dsimp only
   have hl:=Ar9 n f x (Gy n f x) y
   rw [if_pos (by omega),A2e hL x y hx hy]
   simp only [obs0,Wz]
   by_cases hq:cov n f x y=true
   ·rw [if_pos hq,if_pos hq,Ae (by rw [Ao];simp;omega),Ae (by unfold InI;omega)];rfl
   ·rw [if_neg hq,if_neg hq,Ae (by unfold InI;omega)];rfl
  ·unfold B4
   dsimp only
   rw [if_neg (by omega)];rfl
 have key:Aj (B5 (tab n f)) (((0:Nat):Int),Gy n f 0)=some (Gy n f n):=Az (body:=B5 (tab n f)) (fun x=>((x:Int),Gy n f x)) n _ (fun x hx=>by
  unfold B5
  dsimp only
  rw [if_pos (by omega),hrow x hx]
  simp only [obs0]
  rw [Ae (by unfold InI;omega)];rfl) (by
  unfold B5
  dsimp only
  rw [if_neg (by omega)])
 have e0:((0:Int),Ar (Int×Int))=(((0:Nat):Int),Gy n f 0):=rfl
 rw [e0,key];rfl
end
end Go.Proofs.Ytpfikenknmlajaa.Ax
namespace Go.Proofs.Ytpfikenknmlajaa.Ax
open Go Classical
def LeO {α:Type} (a b:Option α):Prop := ∀v,a=some v→b=some v
theorem LeO.refl {α:Type} (a:Option α):LeO a a:=fun _ h=>h
theorem LeO.bind {α β:Type} {a b:Option α} {k l:α→Option β} (h:LeO a b) (hk : ∀x,LeO (k x) (l x)):LeO (a.bind k) (b.bind l):=by
 intro v e
 obtain ⟨x,h1,h2⟩:=Option.bind_eq_some_iff.1 e
 rw [h x h1];exact hk x v h2
theorem LeO.ite {α:Type} {p:Prop} [Decidable p] {a b c d:Option α} (h1:LeO a c) (h2:LeO b d):LeO (if p then a else b) (if p then c else d):=by
 by_cases h:p
 ·rw [if_pos h,if_pos h];exact h1
 ·rw [if_neg h,if_neg h];exact h2
theorem LeO.ask {α:Type} {p:Prop} {a b:Option α} (h:LeO a b):LeO (ask p a) (ask p b):=fun v e=>Yl.2 ⟨(Yl.1 e).1,h v (Yl.1 e).2⟩
theorem LeO.loop {σ τ:Type} {f g:σ→Option (σ ⊕ τ)} (h : ∀s,LeO (f s) (g s)) (s:σ):LeO (Aj f s) (Aj g s):=by
 intro v e
 obtain ⟨n,hn⟩:=Q0.1 e
 refine Q0.2 ⟨n,?_⟩
 clear e
 induction n generalizing s with
 | zero=>cases hn
 | succ n ih=>
   simp only [Amc] at hn ⊢
   cases hf:f s with
   | none=>rw [hf] at hn;cases hn
   | some o=>
     rw [hf] at hn
     rw [h s o hf]
     cases o with
     | inl s'=>exact ih s' hn
     | inr t=>exact hn
def mx:Nat→(Nat→Nat)→Nat
 | 0,_=>0
 | n+1,f=>max (mx n f) (f n)
theorem Az0 {n:Nat} {f:Nat→Nat} {i:Nat} (h:i<n):f i≤mx n f:=by
 induction n with
 | zero=>omega
 | succ n ih=>
   simp only [mx]
   by_cases e:i=n
   ·subst e;omega
   ·have:=ih (by omega);omega
theorem Aoy {n m:Nat} {f:Nat→Nat} (h : ∀i,i<n→f i≤m):mx n f≤m:=by
 induction n with
 | zero=>simp [mx]
 | succ n ih=>
   simp only [mx]
   have:=ih fun i hi=>h i (by omega)
   have:=h n (by omega)
   omega
theorem Aul {n:Nat} {f g:Nat→Nat} (h : ∀i,i<n→f i=g i):mx n f=mx n g:=by
 induction n with
 | zero=>rfl
 | succ n ih=>simp only [mx];rw [ih fun i hi=>h i (by omega),h n (by omega)]
def sm:Nat→(Nat→Nat)→Nat
 | 0,_=>0
 | n+1,f=>sm n f+f n
theorem A2k {n:Nat} {f g:Nat→Nat} (h : ∀i,i<n→f i≤g i):sm n f≤sm n g:=by
 induction n with
 | zero=>exact Nat.le_refl _
 | succ n ih=>simp only [sm];have:=ih fun i hi=>h i (by omega);have:=h n (by omega);omega
theorem A7i {n:Nat} {f g:Nat→Nat} (h : ∀i,i<n→f i≤g i) {j:Nat} (hj:j<n) (hl:f j<g j):sm n f<sm n g:=by
 induction n with
 | zero=>omega
 | succ n ih=>
   simp only [sm]
   by_cases e:j=n
   ·subst e;have:=A2k fun i hi=>h i (Nat.lt_succ_of_lt hi);omega
   ·have:=ih (fun i hi=>h i (by omega)) (by omega);have:=h n (by omega);omega
theorem Av9 (n c:Nat):sm n (fun _=>c)=n*c:=by
 induction n with
 | zero=>simp [sm]
 | succ n ih=>simp only [sm,ih,Nat.succ_mul]
def many (n:Nat) (p:Nat→Bool):Nat:=sm n fun i=>if p i then 1 else 0
theorem Azk (n:Nat) (p:Nat→Bool):many n p≤n:=by
 have:=A2k (n:=n) (f:=fun i=>if p i then 1 else 0) (g:=fun _=>1) fun i _=>by (try dsimp only);split<;>omega
 rw [Av9] at this
 unfold many;omega
structure Strict (n:Nat) (r:Nat→Nat→Bool):Prop where
 irr : ∀x,x<n→r x x=false
 tr : ∀x y z,x<n→y<n→z<n→r x y=true→r y z=true→r x z=true
def htn (n:Nat) (r:Nat→Nat→Bool):Nat→Nat→Nat
 | 0,_=>0
 | k+1,x=>mx n fun y=>if r y x then htn n r k y+1 else 0
def ht (n:Nat) (r:Nat→Nat→Bool) (x:Nat):Nat:=htn n r n x
section
variable {n:Nat} {r:Nat→Nat→Bool}
theorem Ags (h:Strict n r) {x y:Nat} (hx:x<n) (hy:y<n) (hr:r y x=true):many n (fun z=>r z y)<many n (fun z=>r z x):=by
 refine A7i (fun i hi=> ?_) hy ?_
 ·(try dsimp only)
  by_cases e:r i y=true
  ·rw [if_pos e,if_pos (h.tr i y x hi hy hx e hr)];exact Nat.le_refl _
  ·rw [if_neg e];exact Nat.zero_le _
 ·(try dsimp only)
  rw [if_pos hr,if_neg (by rw [h.irr y hy];simp)];exact Nat.zero_lt_one
theorem A7t (k x:Nat):htn n r k x≤k:=by
 induction k generalizing x with
 | zero=>exact Nat.le_refl _
 | succ k ih=>
   refine Aoy fun y _=> ?_
   (try dsimp only)
   split
   ·have:=ih y;omega
   ·omega
theorem Axe (h:Strict n r) (k:Nat) : ∀x,x<n→many n (fun z=>r z x)≤k→htn n r k x=htn n r (k+1) x:=by
 induction k with
 | zero=>
   intro x hx hc
   have:htn n r 1 x≤0:=Aoy fun y hy=>by
    (try dsimp only)
    rw [if_neg]
    ·exact Nat.le_refl _
    ·intro hr
     have:=Ags h hx hy hr
     omega
   have e:htn n r 0 x=0:=rfl
   show htn n r 0 x=htn n r 1 x
   omega
 | succ k ih=>
   intro x hx hc
   show mx n _=mx n _
   refine Aul fun y hy=> ?_
   (try dsimp only)
   by_cases hr:r y x=true
   ·have:=Ags h hx hy hr
    rw [if_pos hr,if_pos hr,ih y hy (by omega)]
   ·rw [if_neg hr,if_neg hr]
theorem Ay5 (h:Strict n r) {x:Nat} (hx:x<n):ht n r x=mx n fun y=>if r y x then ht n r y+1 else 0:=Axe h n x hx (Azk _ _)
theorem Apg (x:Nat):ht n r x≤n:=A7t n x
theorem A0d (h:Strict n r) {x y:Nat} (hx:x<n) (hy:y<n) (hr:r y x=true):ht n r y<ht n r x:=by
 rw [Ay5 h hx]
 have:=Az0 (n:=n) (f:=fun y=>if r y x then ht n r y+1 else 0) hy
 (try dsimp only at this)
 rw [if_pos hr] at this
 omega
theorem A3k (h:Strict n r) {x m:Nat} (hx:x<n) (hm : ∀y,y<n→r y x=true→ht n r y+1≤m):ht n r x≤m:=by
 rw [Ay5 h hx]
 refine Aoy fun y hy=> ?_
 (try dsimp only)
 split
 ·rename_i e;exact hm y hy e
 ·exact Nat.zero_le _
theorem Agc (h:Strict n r) {P:Nat→Prop} (hp : ∀x,x<n→(∀y,y<n→r y x=true→P y)→P x) : ∀x,x<n→P x:=by
 have key : ∀k x,x<n→many n (fun z=>r z x)≤k→P x:=by
  intro k
  induction k with
  | zero=>intro x hx hc;exact hp x hx fun y hy hr=>by have:=Ags h hx hy hr;omega
  | succ k ih=>intro x hx hc;exact hp x hx fun y hy hr=>ih y hy (by have:=Ags h hx hy hr;omega)
 exact fun x hx=>key _ x hx (Nat.le_refl _)
theorem A1s (h:Strict n r) {l:Nat→Nat} (h1 : ∀x,x<n→l x≤ht n r x) (h2 : ∀x y,x<n→y<n→r y x=true→l y<l x) : ∀x,x<n→l x=ht n r x:=by
 refine Agc h fun x hx ih=>Nat.le_antisymm (h1 x hx) (A3k h hx fun y hy hr=> ?_)
 rw [←ih y hy hr]
 exact h2 x y hx hy hr
end
def rel (f:Nat→Nat→Bool) (down:Bool) (y x:Nat):Bool:=if down then (decide (y≠x)&&f y x) else (decide (x≠y)&&f x y)
structure LInv (n:Nat) (r:Nat→Nat→Bool) (l:List Int):Prop where
 len:l.length=n
 low : ∀x,x<n→0≤nth l x
 high : ∀x,x<n→nth l x≤ht n r x
def tot (n:Nat) (l:List Int):Nat:=sm n fun i=>(nth l i).toNat
theorem A41 {n r l} (h:LInv n r l):tot n l≤n*n:=by
 have:=A2k (n:=n) (f:=fun i=>(nth l i).toNat) (g:=fun _=>n) fun i hi=>by
  have:=h.high i hi
  have:=Apg (n:=n) (r:=r) i
  (try dsimp only);omega
 rw [Av9] at this;exact this
theorem LInv.set {n r l} (h:LInv n r l) (hs:Strict n r) {x y:Nat} (hx:x<n) (hy:y<n) (hr:r y x=true) (hl:nth l x≤nth l y):LInv n r (l.set x (nth l y+1))∧tot n l<tot n (l.set x (nth l y+1)):=by
 have e : ∀i,i<n→nth (l.set x (nth l y+1)) i=if x=i then nth l y+1 else nth l i:=fun i hi=>Bm _ _ _ _ (by rw [h.len];exact hi)
 refine ⟨⟨by rw [List.length_set];exact h.len,fun i hi=> ?_,fun i hi=> ?_⟩,?_⟩
 ·rw [e i hi]
  split
  ·have:=h.low y hy;omega
  ·exact h.low i hi
 ·rw [e i hi]
  split
  ·rename_i e;subst e
   have:=h.high y hy
   have:=A0d hs hx hy hr
   omega
  ·exact h.high i hi
 ·have hlow:=h.low y hy
  refine A7i (fun i hi=> ?_) hx ?_
  ·rw [e i hi]
   split
   ·rename_i e;subst e;omega
   ·exact Nat.le_refl _
  ·rw [e x hx,if_pos rfl];have:=h.low x hx;omega
theorem Axp {n:Nat} {f:Nat→Nat→Bool} {down:Bool} (hs:Strict n (rel f down)) (hn:n≤1000) {x:Nat} (hx:x<n) {ch0:Bool} {l0:List Int} (h0:LInv n (rel f down) l0) :
  ∃t,Aj (Cs (tab n f) down x) (0,ch0,l0)=some t∧LInv n (rel f down) t.2∧tot n l0≤tot n t.2∧(t.1=true→ch0=true∨tot n l0<tot n t.2) ∧
    (t.1=false→ch0=false∧t.2=l0 ∧ ∀y,y<n→rel f down y x=true→nth l0 y<nth l0 x):=by
 refine Hq (body:=Cs (tab n f) down x) (fun s=>0≤s.1∧s.1≤n∧LInv n (rel f down) s.2.2∧tot n l0≤tot n s.2.2∧(s.2.1=true→ch0=true∨tot n l0<tot n s.2.2) ∧
   (s.2.1=false→ch0=false∧s.2.2=l0 ∧ ∀y,y<n→(y:Int)<s.1→rel f down y x=true→nth l0 y<nth l0 x)) (fun s=>n-s.1.toNat) _ ?_ ⟨by simp,by simp,h0,Nat.le_refl _,fun h=> .inl h,fun h=>⟨h,rfl,fun y _ hy=>by (try dsimp only at hy);omega⟩⟩
 rintro ⟨yi,ch,l⟩ ⟨a,b,c,d,e,g⟩
 dsimp only at a b c d e g
 obtain ⟨y,rfl⟩:=Int.eq_ofNat_of_zero_le a
 have tl:=Bw n f
 have ll:=c.len
 by_cases hy:y<n
 ·have cond:(if (down)=true then
    if (down)=true then
     (Au (tab n f) (y:Int) (x:Int)).bind fun r7=>
     if (r7)=true then
     ask (0≤(x:Int)∧(x:Int)<l.length) <|
     ask (0≤(y:Int)∧(y:Int)<l.length) <|
     some (decide (nth l (x:Int).toNat≤nth l (y:Int).toNat))
     else
     some false
    else
     some false
    else
    (Au (tab n f) (x:Int) (y:Int)).bind fun r11=>
    if (r11)=true then
     ask (0≤(x:Int)∧(x:Int)<l.length) <|
     ask (0≤(y:Int)∧(y:Int)<l.length) <|
     some (decide (nth l (x:Int).toNat≤nth l (y:Int).toNat))
    else
     if (down)=true then
     (Au (tab n f) (y:Int) (x:Int)).bind fun r16=>
     if (r16)=true then
      ask (0≤(x:Int)∧(x:Int)<l.length) <|
      ask (0≤(y:Int)∧(y:Int)<l.length) <|
      some (decide (nth l (x:Int).toNat≤nth l (y:Int).toNat))
     else
      some false
     else
     some false:Option Bool)=some (rel f down y x&&decide (nth l x≤nth l y)):=by
   rw [M6 n f y x hy hx,M6 n f x y hx hy]
   cases down
   ·simp only [rel,obs0,Bool.false_eq_true,if_false,tna0]
    by_cases hr:(decide (x≠y)&&f x y)=true
    ·rw [if_pos hr,Ae (by omega),Ae (by omega),hr];simp
    ·rw [if_neg hr,Bool.eq_false_iff.2 hr];rfl
   ·simp only [rel,obs0,if_true,tna0]
    by_cases hr:(decide (y≠x)&&f y x)=true
    ·rw [if_pos hr,Ae (by omega),Ae (by omega),hr];simp
    ·rw [if_neg hr,Bool.eq_false_iff.2 hr];rfl
  unfold Cs
  (try dsimp only)
  rw [if_pos (by omega),cond]
  simp only [obs0]
  by_cases hc:(rel f down y x&&decide (nth l x≤nth l y))=true
  ·have hr:rel f down y x=true:=by simp at hc;exact hc.1
   have hl:nth l x≤nth l y:=by simp at hc;exact hc.2
   obtain ⟨s1,s2⟩:=c.set hs hx hy hr hl
   have h1:=c.low y hy
   have h2:=c.high y hy
   have h3:=Apg (n:=n) (r:=rel f down) y
   refine .inl ⟨((y:Int)+1,true,l.set x (nth l y+1)),?_,⟨by (try dsimp only);omega,by (try dsimp only);omega,s1,by (try dsimp only);omega,fun _=> .inr (by (try dsimp only);omega),fun h=>by cases h⟩,by (try dsimp only);omega⟩
   rw [if_pos hc]
   simp (disch:=omega) only [Ae,Cg,tna0]
  ·refine .inl ⟨((y:Int)+1,ch,l),?_,⟨by (try dsimp only);omega,by (try dsimp only);omega,c,d,e,fun h=> ?_⟩,by (try dsimp only);omega⟩
   ·rw [if_neg hc]
    simp (disch:=omega) only [Ae,Cg]
   ·obtain ⟨g1,g2,g3⟩:=g h
    refine ⟨g1,g2,fun z hz hzy hr=> ?_⟩
    (try dsimp only at hzy)
    by_cases hzy':z=y
    ·subst hzy'
     (try dsimp only at g2)
     subst g2
     simp [hr] at hc
     exact hc
    ·exact g3 z hz (by omega) hr
 ·refine .inr ⟨(ch,l),?_,c,d,e,fun h=> ?_⟩
  ·unfold Cs
   simp (disch:=omega) only [Ae,if_pos,if_neg,Cg,tna0]
  ·obtain ⟨g1,g2,g3⟩:=g h
   exact ⟨g1,g2,fun z hz hr=>g3 z hz (by omega) hr⟩
theorem Axz {n:Nat} {f:Nat→Nat→Bool} {down:Bool} (hs:Strict n (rel f down)) (hn:n≤1000) {l0:List Int} (h0:LInv n (rel f down) l0) :
  ∃t,Aj (Cn (tab n f) down) (0,false,l0)=some t∧LInv n (rel f down) t.2∧tot n l0≤tot n t.2∧(t.1=true→tot n l0<tot n t.2) ∧
    (t.1=false→t.2=l0 ∧ ∀x y,x<n→y<n→rel f down y x=true→nth l0 y<nth l0 x):=by
 refine Hq (body:=Cn (tab n f) down) (fun s=>0≤s.1∧s.1≤n∧LInv n (rel f down) s.2.2∧tot n l0≤tot n s.2.2∧(s.2.1=true→tot n l0<tot n s.2.2) ∧
   (s.2.1=false→s.2.2=l0 ∧ ∀x y,x<n→(x:Int)<s.1→y<n→rel f down y x=true→nth l0 y<nth l0 x)) (fun s=>n-s.1.toNat) _ ?_ ⟨by simp,by simp,h0,Nat.le_refl _,(fun h=>by cases h),fun _=>⟨rfl,fun x y _ hx=>by (try dsimp only at hx);omega⟩⟩
 rintro ⟨xi,ch,l⟩ ⟨a,b,c,d,e,g⟩
 dsimp only at a b c d e g
 obtain ⟨x,rfl⟩:=Int.eq_ofNat_of_zero_le a
 have tl:=Bw n f
 by_cases hx:x<n
 ·obtain ⟨⟨c1,l1⟩,t1,t2,t3,t4,t5⟩:=Axp hs hn hx (ch0:=ch) c
  dsimp only at t2 t3 t4 t5
  refine .inl ⟨((x:Int)+1,c1,l1),?_,⟨by (try dsimp only);omega,by (try dsimp only);omega,t2,by (try dsimp only);omega,fun h=> ?_,fun h=> ?_⟩,by (try dsimp only);omega⟩
  ·unfold Cn
   (try dsimp only)
   rw [if_pos (by omega),t1]
   simp (disch:=omega) only [Ae,Cg,obs0]
  ·rcases t4 h with h | h
   ·have:=e h;(try dsimp only);omega
   ·(try dsimp only);omega
  ·obtain ⟨u1,u2,u3⟩:=t5 h
   obtain ⟨g1,g2⟩:=g u1
   subst g1
   refine ⟨u2,fun x' y hx' hx1 hy hr=> ?_⟩
   (try dsimp only at hx1)
   by_cases hxx:x'=x
   ·subst hxx;exact u3 y hy hr
   ·exact g2 x' y hx' (by omega) hy hr
 ·refine .inr ⟨(ch,l),?_,c,d,e,fun h=> ?_⟩
  ·unfold Cn
   simp (disch:=omega) only [Ae,if_neg,Cg]
  ·obtain ⟨g1,g2⟩:=g h
   exact ⟨g1,fun x' y hx' hy hr=>g2 x' y hx' (by omega) hy hr⟩
def Hv (n:Nat) (r:Nat→Nat→Bool):List Int:=(List.range n).map fun x=>(ht n r x:Int)
theorem Ara {n:Nat} {f:Nat→Nat→Bool} {down:Bool} (hs:Strict n (rel f down)) (hn:n≤1000):En (tab n f) down=some (Hv n (rel f down)):=by
 unfold En
 have tl:=Bw n f
 have start:LInv n (rel f down) (List.replicate n 0):=⟨by simp,fun x hx=>by rw [Bh _ hx];omega,fun x hx=>by rw [Bh _ hx];omega⟩
 obtain ⟨t,t1,t2,t3⟩:=Hq (body:=Df (tab n f) down) (fun s=>LInv n (rel f down) s.2∧(s.1=false → ∀x y,x<n→y<n→rel f down y x=true→nth s.2 y<nth s.2 x)) (fun s=>if s.1 then n*n+1-tot n s.2 else 0)
  (fun t=>LInv n (rel f down) t ∧ ∀x y,x<n→y<n→rel f down y x=true→nth t y<nth t x) (by
  rintro ⟨ch,l⟩ ⟨a,b⟩
  dsimp only at a b
  cases ch with
  | false=>exact .inr ⟨l,by unfold Df;simp,a,b rfl⟩
  | true=>
    obtain ⟨⟨c1,l1⟩,u1,u2,u3,u4,u5⟩:=Axz hs hn a
    dsimp only at u2 u3 u4 u5
    have ht1:=A41 u2
    refine .inl ⟨(c1,l1),by unfold Df;simp [u1],⟨u2,fun h=> ?_⟩,?_⟩
    ·obtain ⟨v1,v2⟩:=u5 h
     (try dsimp only)
     rw [v1];exact v2
    ·(try dsimp only)
     cases c1 with
     | false=>simp;have:=A41 a;omega
     | true=>simp;have:=u4 rfl;omega) (s:=(true,List.replicate n 0)) ⟨start,fun h=>by cases h⟩
 rw [tl]
 rw [Ae (by rw [Ao];omega),tna0,t1]
 simp only [obs0]
 congr 1
 refine Px (by rw [t2.len];simp [Hv]) fun i hi=> ?_
 rw [t2.len] at hi
 have e:=A1s hs (l:=fun x=>(nth t x).toNat) (fun x hx=>by have:=t2.low x hx;have:=t2.high x hx;(try dsimp only);omega) (fun x y hx hy hr=>by have:=t3 x y hx hy hr;have:=t2.low y hy;(try dsimp only);omega) i hi
 (try dsimp only at e)
 unfold Hv
 rw [K2 _ (by simpa using hi),I7 hi]
 have:=t2.low i hi
 omega
end Go.Proofs.Ytpfikenknmlajaa.Ax
namespace Go.Proofs.Ytpfikenknmlajaa.Ax
open Go Classical
theorem A9c {α β:Type} {F:Nat→α→β→Option Int} (h0 : ∀a b,F 0 a b=none) (h : ∀n,(∀a b,LeO (F n a b) (F (n+1) a b)) → ∀a b,LeO (F (n+1) a b) (F (n+2) a b)) (a:α) (b:β):upO fun n=>F n a b:=by
 have step : ∀n,∀a b,LeO (F n a b) (F (n+1) a b):=by
  intro n
  induction n with
  | zero=>intro a b v e;rw [h0] at e;cases e
  | succ n ih=>exact h n ih
 have key : ∀n k v,F n a b=some v→F (n+k) a b=some v:=by
  intro n k v e
  induction k with
  | zero=>exact e
  | succ k ih=>exact step (n+k) a b v ih
 intro n m v hnm e
 have:=key n (m-n) v e
 rwa [show n+(m-n)=m by omega] at this
section
variable {p:SPoset}
theorem W3 (hg:good p.Below):Strict p.Below.length (rel (below p.Below) true):=by
 refine ⟨fun x _=>by simp [rel],fun x y z hx hy hz h1 h2=> ?_⟩
 simp only [rel,if_true,Bool.and_eq_true,decide_eq_true_eq] at h1 h2 ⊢
 refine ⟨?_,Aaa hg x y z hx hy hz h1.2 h2.2⟩
 rintro rfl
 exact h1.1 (Ac8 hg x y hx hy h1.2 h2.2)
theorem Ako (hg:good p.Below):Strict p.Below.length (rel (below p.Below) false):=by
 refine ⟨fun x _=>by simp [rel],fun x y z hx hy hz h1 h2=> ?_⟩
 simp only [rel,Bool.false_eq_true,if_false,Bool.and_eq_true,decide_eq_true_eq] at h1 h2 ⊢
 refine ⟨?_,Aaa hg z y x hz hy hx h2.2 h1.2⟩
 rintro rfl
 exact h1.1 (Ac8 hg y z hy hx h1.2 h2.2)
theorem Ao6 {s1 s2:SPoset→Int→Option Int} (h : ∀p x,LeO (s1 p x) (s2 p x)) (p:SPoset) (x:Int):LeO (Di s1 p x) (Di s2 p x):=by
 unfold Di
 refine LeO.bind (LeO.loop (fun s=> ?_) _) fun _=>LeO.refl _
 obtain ⟨a,b⟩:=s
 unfold C8
 dsimp only
 exact LeO.ask (LeO.ite (LeO.ask (LeO.ask (LeO.ite (LeO.bind (h _ _) fun _=>LeO.refl _) (LeO.refl _)))) (LeO.refl _))
theorem Ast (p:SPoset) (x:Int):upO fun n=>Ce n p x:=A9c (F:=Ce) (fun _ _=>rfl) (fun _ h a b=>Ao6 h a b) p x
theorem Avh (a b:Int):J5 a b=some (if a>b then a else b):=by
 unfold J5;split<;>rfl
theorem Au9 (hg:good p.Below) : ∀k x:Nat,x<p.Below.length→many p.Below.length (fun z=>rel (below p.Below) true z x)<k→Ce k p x=some (ht p.Below.length (rel (below p.Below) true) x:Int):=by
 have hs:=W3 hg
 have h10:=hg.1
 intro k
 induction k with
 | zero=>intro x _ h;omega
 | succ k ih=>
   intro x hx hc
   show Di (Ce k) p x=_
   unfold Di
   have hrow:=Yf hg x hx
   have hrl:(nth p.Below x).length≤p.Below.length:=by rw [A4o hg x hx];exact G9 _ _
   obtain ⟨t,t1,t2⟩:=Hq (body:=C8 (Ce k) p x) (fun s=>0≤s.1∧s.1≤(nth p.Below x).length∧0≤s.2 ∧
     (∀y,y<p.Below.length→(∃j:Nat,(j:Int)<s.1∧nth (nth p.Below x) j=(y:Int))→y≠x→(ht p.Below.length (rel (below p.Below) true) y:Int)+1≤s.2) ∧
     s.2≤ht p.Below.length (rel (below p.Below) true) x) (fun s=>(nth p.Below x).length-s.1.toNat) (fun t=>t=(ht p.Below.length (rel (below p.Below) true) x:Int)) (by
    rintro ⟨ii,m⟩ ⟨a,b,c,d,e⟩
    dsimp only at a b c d e
    obtain ⟨i,rfl⟩:=Int.eq_ofNat_of_zero_le a
    by_cases hi:i<(nth p.Below x).length
    ·obtain ⟨y,hy⟩:=Int.eq_ofNat_of_zero_le (hrow.2 _ (Ba hi)).1
     have hyn:y<p.Below.length:=by have:=(hrow.2 _ (Ba hi)).2;omega
     have hyb:below p.Below y x=true:=by simp only [below,decide_eq_true_eq];rw [←hy];exact Ba hi
     by_cases hyx:y=x
     ·subst hyx
      refine .inl ⟨((i:Int)+1,m),?_,⟨by dsimp only;omega,by dsimp only;omega,c,fun z hz hj hzy=> ?_,e⟩,by dsimp only;omega⟩
      ·unfold C8
       simp (disch:=omega) only [Ae,if_pos,if_false,Cg,tna0,hy,ne_eq,not_true]
      ·obtain ⟨j,hj1,hj2⟩:=hj
       dsimp only at hj1
       by_cases hji:j=i
       ·subst hji;omega
       ·exact d z hz ⟨j,by omega,hj2⟩ hzy
     ·have hr:rel (below p.Below) true y x=true:=by simp [rel,hyx,hyb]
      have hlt:=A0d hs hx hyn hr
      have hle:=Apg (n:=p.Below.length) (r:=rel (below p.Below) true) x
      have hm:=Ags hs hx hyn hr
      have hyx':¬(y:Int)=(x:Int):=by omega
      refine .inl ⟨((i:Int)+1,if m>(ht p.Below.length (rel (below p.Below) true) y:Int)+1 then m else (ht p.Below.length (rel (below p.Below) true) y:Int)+1),?_,⟨by dsimp only;omega,by dsimp only;omega,by dsimp only;split<;>omega,fun z hz hj hzy=> ?_,by dsimp only;split<;>omega⟩,by dsimp only;omega⟩
      ·unfold C8
       simp (disch:=omega) only [Ae,if_pos,if_true,Cg,tna0,obs0,hy,ne_eq,hyx',not_false_iff,ih y hyn (by omega),Avh]
      ·obtain ⟨j,hj1,hj2⟩:=hj
       dsimp only at hj1 ⊢
       by_cases hji:j=i
       ·subst hji
        have:z=y:=by omega
        subst this
        split<;>omega
       ·have:=d z hz ⟨j,by omega,hj2⟩ hzy
        split<;>omega
    ·refine .inr ⟨m,?_,?_⟩
     ·unfold C8
      simp (disch:=omega) only [Ae,if_pos,if_neg,Cg,tna0]
     ·have:=A3k hs (m:=m.toNat) hx (fun y hy hr=>by
       have hb:below p.Below y x=true:=by simp only [rel,if_true,Bool.and_eq_true] at hr;exact hr.2
       have hyx:y≠x:=by simp only [rel,if_true,Bool.and_eq_true,decide_eq_true_eq] at hr;exact hr.1
       have hmem:(y:Int)∈nth p.Below x:=by simpa [below] using hb
       obtain ⟨j,hj,hj2⟩:=Hu.1 hmem
       have:=d y hy ⟨j,by omega,hj2⟩ hyx
       omega)
      omega) (s:=(0,0)) ⟨by simp,by simp,by simp,(fun y _ hj=>by obtain ⟨j,hj,_⟩:=hj;dsimp only at hj;omega),by simp⟩
   rw [t1,t2]
   rfl
theorem Aqz (hg:good p.Below) {x:Nat} (hx:x<p.Below.length):(Afn fun n=>Ce n p x)=some (ht p.Below.length (rel (below p.Below) true) x:Int):=
 At4 (Ast p x) (Au9 hg (p.Below.length+1) x hx (by have:=Azk p.Below.length (fun z=>rel (below p.Below) true z x);omega))
end
end Go.Proofs.Ytpfikenknmlajaa.Ax
namespace Go.Proofs.Ytpfikenknmlajaa.Ax
open Go Classical
theorem A13 {n:Nat} {r s:Nat→Nat→Bool} (h : ∀y x,y<n→x<n→r y x=s y x) (k:Nat) : ∀x,x<n→htn n r k x=htn n s k x:=by
 induction k with
 | zero=>intro x _;rfl
 | succ k ih=>
   intro x hx
   show mx n _=mx n _
   refine Aul fun y hy=> ?_
   rw [h y x hy hx,ih y hy]
theorem A2s {n:Nat} {r s:Nat→Nat→Bool} (h : ∀y x,y<n→x<n→r y x=s y x) {x:Nat} (hx:x<n):ht n r x=ht n s x:=A13 h n x hx
theorem A35 {n:Nat} {f:Nat→Nat} (h:0<mx n f) : ∃i,i<n∧f i=mx n f:=by
 induction n with
 | zero=>simp [mx] at h
 | succ n ih=>
   simp only [mx] at h ⊢
   by_cases e:mx n f≤f n
   ·exact ⟨n,by omega,by omega⟩
   ·obtain ⟨i,h1,h2⟩:=ih (by omega)
    exact ⟨i,by omega,by omega⟩
theorem A43 {n:Nat} {q:Nat→Prop} (h : ∃x,x<n∧q x) : ∃x,x<n∧q x ∧ ∀y,y<x→¬q y:=by
 obtain ⟨x,hx,hq⟩:=h
 induction x using Nat.strongRecOn with
 | ind x ih=>
   by_cases hy : ∃y,y<x∧q y
   ·obtain ⟨y,h1,h2⟩:=hy
    exact ih y h1 (by omega) h2
   ·exact ⟨x,hx,hq,fun y h1 h2=>hy ⟨y,h1,h2⟩⟩
section
variable {p:SPoset}
theorem X1 (hs:small p) (x y:Nat) (hy:y<p.Below.length):Hh p x y=some (decide (x≠y)&&below p.Below x y):=by
 unfold Hh
 by_cases h:x=y
 ·subst h;simp
 ·have:(x:Int)≠y:=by omega
  simp only [ne_eq,this,not_false_iff,if_true,Apl hs x y hy,h,decide_true,Bool.true_and,obs0]
noncomputable def hup (p:SPoset) (x:Nat):Nat:=ht p.Below.length (rel (below p.Below) false) x
theorem Acc (hg:good p.Below) {x:Nat} (hx:x<p.Below.length):(Afn fun n=>Ce n (Kl p) x)=some (hup p x:Int):=by
 rw [Aqz (Y9 hg) (by rw [Fb];exact hx)]
 congr 2
 rw [Fb]
 refine A2s (fun y z hy hz=> ?_) hx
 simp only [rel,if_true,Bool.false_eq_true,if_false]
 rw [Hf hz hy]
 by_cases e:y=z
 ·subst e;rfl
 ·simp [e,Ne.symm e]
def Aw5 (p:SPoset) (c:List Int) (x:Nat):Prop:=c=[] ∨ ∃l:Nat,l<p.Below.length∧nth c (c.length-1)=(l:Int)∧l≠x∧below p.Below l x=true
def Azo (p:SPoset) (c:List Int) (j:Nat):Prop:=(c=[]∧(∀x,x<p.Below.length→hup p x+1≤j)∧(0<j → ∃x,x<p.Below.length∧hup p x+1=j))∨(c≠[] ∧ ∃l:Nat,l<p.Below.length∧nth c (c.length-1)=(l:Int)∧hup p l=j)
theorem Ax7 (hg:good p.Below) {c:List Int} {j:Nat} (h:Azo p c (j+1)) :
  (∀x,x<p.Below.length→Aw5 p c x→hup p x≤j) ∧ ∃x,x<p.Below.length∧hup p x=j∧Aw5 p c x:=by
 have hs:=Ako hg
 rcases h with ⟨rfl,h1,h2⟩ | ⟨hne,l,hl,hc,hj⟩
 ·refine ⟨fun x hx _=>by have:=h1 x hx;omega,?_⟩
  obtain ⟨x,hx,he⟩:=h2 (by omega)
  exact ⟨x,hx,by omega,.inl rfl⟩
 ·have rl : ∀x,rel (below p.Below) false x l=true↔(l≠x∧below p.Below l x=true):=fun x=>by simp [rel]
  constructor
  ·intro x hx hf
   rcases hf with hf | ⟨l',hl',hc',h1,h2⟩
   ·exact absurd hf hne
   ·have:l'=l:=by omega
    subst this
    have:=A0d hs hl hx ((rl x).2 ⟨h1,h2⟩)
    unfold hup at *;omega
  ·have e:=Ay5 hs hl
   unfold hup at hj
   rw [hj] at e
   obtain ⟨x,hx,he⟩:=A35 (n:=p.Below.length) (f:=fun y=>if rel (below p.Below) false y l then ht p.Below.length (rel (below p.Below) false) y+1 else 0) (by omega)
   rw [←e] at he
   by_cases hr:rel (below p.Below) false x l=true
   ·rw [if_pos hr] at he
    exact ⟨x,hx,by unfold hup;omega,.inr ⟨l,hl,hc,(rl x).1 hr⟩⟩
   ·rw [if_neg hr] at he;omega
theorem A7l (hs:small p) (hg:good p.Below) : ∀(j:Nat) (c:List Int),Azo p c j→j≤20→c.length≤20-j → ∃out:List Int,out.length=c.length+j ∧
  Aj (Dy (tab p.Below.length (below p.Below),true) (Hv p.Below.length (rel (below p.Below) false))) (c,(j:Int)-1)=some out ∧
  Aj (Du p (Kl p)) ((j:Int),c)=some out:=by
 have h10:=hg.1
 have tl:=Bw p.Below.length (below p.Below)
 have hl:(Hv p.Below.length (rel (below p.Below) false)).length=p.Below.length:=by simp [Hv]
 have hat : ∀x,x<p.Below.length→nth (Hv p.Below.length (rel (below p.Below) false)) x=(hup p x:Int):=fun x hx=>by
  unfold Hv;rw [K2 _ (by simpa using hx),I7 hx];rfl
 intro j
 induction j with
 | zero=>
   intro c _ _ hc
   refine ⟨c,by omega,D2 ?_,D2 ?_⟩
   ·unfold Dy;simp (disch:=omega) only [Ae,if_neg,Cg]
   ·unfold Du;simp (disch:=omega) only [Ae,if_neg,Cg,Ao,List.length_cons,List.length_nil]
 | succ j ih=>
   intro c hk hj hc
   obtain ⟨hle,hex⟩:=Ax7 hg hk
   obtain ⟨x,hx,⟨hxj,hxf⟩,hxn⟩:=A43 (n:=p.Below.length) (q:=fun x=>hup p x=j∧Aw5 p c x) hex
   have lastI:c≠[] → ∃l:Nat,l<p.Below.length∧nth c (c.length-1)=(l:Int) ∧ ∀y,y<p.Below.length→(Aw5 p c y↔(decide (l≠y)&&below p.Below l y)=true):=fun hne=>by
    rcases hk with ⟨h0,_⟩ | ⟨_,l,h1,h2,_⟩
    ·exact absurd h0 hne
    ·refine ⟨l,h1,h2,fun y hy=> ?_⟩
     simp only [Bool.and_eq_true,decide_eq_true_eq]
     constructor
     ·rintro (h | ⟨l',h3,h4,h5⟩)
      ·exact absurd h hne
      ·have:l'=l:=by omega
       subst this;exact h5
     ·intro h;exact .inr ⟨l,h1,h2,h⟩
   have step : ∀y,y<x→¬(hup p y=j∧Aw5 p c y):=hxn
   have inner1:Aj (C1 (tab p.Below.length (below p.Below),true) (Hv p.Below.length (rel (below p.Below) false)) c (((j+1:Nat):Int)-1)) 0=some (c++[(x:Int)]):=by
    refine Az (body:=C1 (tab p.Below.length (below p.Below),true) (Hv p.Below.length (rel (below p.Below) false)) c (((j+1:Nat):Int)-1)) (fun i=>(i:Int)) x _ (fun y hy=> ?_) ?_
    ·have hyn:y<p.Below.length:=by omega
     unfold C1
     by_cases hh:hup p y=j
     ·have hnf:¬Aw5 p c y:=fun h=>step y hy ⟨hh,h⟩
      have hne:c≠[]:=fun h=>hnf (.inl h)
      obtain ⟨l,h1,h2,h3⟩:=lastI hne
      have hlen:0<c.length:=List.length_pos_iff.2 hne
      have h4:(decide (l≠y)&&below p.Below l y)=false:=Bool.eq_false_iff.2 fun h=>hnf ((h3 y hyn).2 h)
      have e1:((c.length:Int)-1).toNat=c.length-1:=by omega
      simp (disch:=omega) only [Ae,if_pos,if_neg,if_false,Cg,Ao,List.length_cons,List.length_nil,tna0,Int.natCast_add,Int.natCast_one,obs0,Bool.false_eq_true,hat y hyn,hh,e1,h2,M6 _ _ _ _ h1 hyn,h4]
     ·simp (disch:=omega) only [Ae,if_pos,if_neg,Cg,Ao,List.length_cons,List.length_nil,tna0,Int.natCast_add,Int.natCast_one,hat y hyn]
    ·unfold C1
     by_cases hce:c=[]
     ·subst hce
      simp (disch:=omega) only [Ae,if_pos,Cg,Ao,List.length_cons,List.length_nil,tna0,Int.natCast_add,Int.natCast_one,hat x hx,hxj]
     ·obtain ⟨l,h1,h2,h3⟩:=lastI hce
      have hlen:0<c.length:=List.length_pos_iff.2 hce
      have h4:=(h3 x hx).1 hxf
      have e1:((c.length:Int)-1).toNat=c.length-1:=by omega
      simp (disch:=omega) only [Ae,if_pos,if_neg,if_true,Cg,Ao,List.length_cons,List.length_nil,tna0,Int.natCast_add,Int.natCast_one,obs0,hat x hx,hxj,e1,h2,M6 _ _ _ _ h1 hx,h4]
   have inner2:Aj (Cy p (Kl p) ((j+1:Nat):Int) c) 0=some (x:Int):=by
    refine Az (body:=Cy p (Kl p) ((j+1:Nat):Int) c) (fun i=>(i:Int)) x _ (fun y hy=> ?_) ?_
    ·have hyn:y<p.Below.length:=by omega
     have hb:=Apg (n:=p.Below.length) (r:=rel (below p.Below) false) y
     have hb':hup p y≤p.Below.length:=hb
     unfold Cy
     by_cases hh:hup p y<j
     ·simp (disch:=omega) only [Ae,if_pos,Cg,Int.natCast_add,Int.natCast_one,obs0,Acc hg hyn]
     ·have hnf:¬Aw5 p c y:=fun h=>step y hy ⟨by have:=hle y hyn h;omega,h⟩
      have hne:c≠[]:=fun h=>hnf (.inl h)
      obtain ⟨l,h1,h2,h3⟩:=lastI hne
      have hlen:0<c.length:=List.length_pos_iff.2 hne
      have h4:(decide (l≠y)&&below p.Below l y)=false:=Bool.eq_false_iff.2 fun h=>hnf ((h3 y hyn).2 h)
      have e1:((c.length:Int)-1).toNat=c.length-1:=by omega
      simp (disch:=omega) only [Ae,if_pos,if_neg,if_false,Cg,Int.natCast_add,Int.natCast_one,obs0,Bool.false_eq_true,Acc hg hyn,e1,h2,X1 hs _ _ hyn,h4]
    ·unfold Cy
     by_cases hce:c=[]
     ·subst hce
      simp (disch:=omega) only [Ae,if_pos,if_neg,Cg,List.length_nil,Int.natCast_add,Int.natCast_one,obs0,Acc hg hx,hxj]
     ·obtain ⟨l,h1,h2,h3⟩:=lastI hce
      have hlen:0<c.length:=List.length_pos_iff.2 hce
      have h4:=(h3 x hx).1 hxf
      have e1:((c.length:Int)-1).toNat=c.length-1:=by omega
      simp (disch:=omega) only [Ae,if_pos,if_neg,if_true,Cg,Int.natCast_add,Int.natCast_one,obs0,Acc hg hx,hxj,e1,h2,X1 hs _ _ hx,h4]
   obtain ⟨out,o1,o2,o3⟩:=ih (c++[(x:Int)]) (.inr ⟨by simp,x,hx,by simp [nth],hxj⟩) (by omega) (by simp;omega)
   rw [List.length_append,List.length_singleton] at o1
   refine ⟨out,by omega,?_,?_⟩
   ·rw [←o2]
    refine F7 ?_
    unfold Dy
    dsimp only
    rw [if_pos (by omega),inner1]
    simp only [obs0]
    rw [Ae (by unfold InI;omega)]
    congr 4
    omega
   ·rw [←o3]
    refine F7 ?_
    unfold Du
    dsimp only
    rw [if_pos (by omega),inner2]
    simp (disch:=omega) only [Ae,Cg,Ao,List.length_cons,List.length_nil,Int.natCast_add,Int.natCast_one,obs0]
    congr 4
    omega
end
theorem Ajk {p:SPoset} (hs:small p) (hg:good p.Below) : ∃out:List Int,Gz p=some (out,true)∧G3 p=some (out,true)∧out.length=mx p.Below.length fun x=>hup p x+1:=by
 unfold Gz G3
 rw [Tg p hs.1 hs.2]
 simp only [obs0]
 rw [Hs p hs.1 hs.2 hg]
 have h10:=hg.1
 simp only [obs0,hg,decide_true,if_true]
 rw [Ara (Ako hg) (by omega),A0s hs]
 simp only [obs0]
 have hb : ∀x,hup p x≤p.Below.length:=fun x=>Apg (n:=p.Below.length) (r:=rel (below p.Below) false) x
 have hl:(Hv p.Below.length (rel (below p.Below) false)).length=p.Below.length:=by simp [Hv]
 have m1:=Az (body:=Cw (tab p.Below.length (below p.Below),true) (Hv p.Below.length (rel (below p.Below) false))) (fun i=>((i:Int),((mx i fun x=>hup p x+1:Nat):Int)-1)) p.Below.length (((mx p.Below.length fun x=>hup p x+1:Nat):Int)-1) (fun i hi=>by
  have hat:nth (Hv p.Below.length (rel (below p.Below) false)) i=(hup p i:Int):=by
   unfold Hv;rw [K2 _ (by simpa using hi),I7 hi];rfl
  unfold Cw
  simp (disch:=omega) only [Ae,if_pos,Cg,tna0,Int.natCast_add,Int.natCast_one,hat,mx]
  congr 4
  split<;>omega) (by
  unfold Cw
  simp (disch:=omega) only [Ae,if_pos,if_neg,Cg,tna0])
 have m2:=Az (body:=C3 p (Kl p)) (fun i=>((i:Int),((mx i fun x=>hup p x+1:Nat):Int))) p.Below.length ((mx p.Below.length fun x=>hup p x+1:Nat):Int) (fun i hi=>by
  have:=hb i
  unfold C3
  simp (disch:=omega) only [Ae,if_pos,Cg,Int.natCast_add,Int.natCast_one,obs0,Acc hg hi,Avh,mx]
  congr 4
  split<;>omega) (by
  unfold C3
  simp (disch:=omega) only [Ae,if_neg,Cg])
 have hm:mx p.Below.length (fun x=>hup p x+1)≤11:=Aoy fun x _=>by have:=hb x;omega
 obtain ⟨out,o1,o2,o3⟩:=A7l hs hg (mx p.Below.length fun x=>hup p x+1) [] (.inl ⟨rfl,fun x hx=>Az0 (f:=fun x=>hup p x+1) hx,fun h=>A35 h⟩) (by omega) (by simp)
 refine ⟨out,?_,?_,by rw [o1,List.length_nil,Nat.zero_add]⟩
 ·refine (congrArg (Option.bind · _) (show Aj (C3 p (Kl p)) (0,0)=_ from m2)).trans ?_
  simp only [obs0]
  rw [o3];rfl
 ·refine (congrArg (Option.bind · _) (show Aj (Cw _ _) (0, -1)=_ from m1)).trans ?_
  simp only [obs0]
  rw [o2];rfl
end Go.Proofs.Ytpfikenknmlajaa.Ax
