/-
 Plain facts, joined.
-/
import Derived.Test.YtmmcfdfdacpjgaaAx4
import Derived.Test.YtmmcfdfdacpjgaaGALL
namespace Go.Proofs.Ytmmcfdfdacpjgaa.Ax
open Go
abbrev BIG:Nat:=9223372036854775807
theorem D6 {α:Type} [Inhabited α] {xs:List α} {i:Nat} (h:i<xs.length):nth xs i=xs[i]:=by simp [nth,List.getD_eq_getElem?_getD,h]
theorem As {α:Type} [Inhabited α] {xs:List α} {i:Nat} (h:i<xs.length):nth xs i∈xs:=by rw [D6 h];exact List.getElem_mem h
theorem Dr {α β:Type} [Inhabited α] [Inhabited β] (f:α→β) {xs:List α} {i:Nat} (h:i<xs.length):nth (xs.map f) i=f (nth xs i):=by
 rw [D6 h,D6 (by simpa using h)];simp
theorem Ma {i n:Nat} (h:i<n):nth (List.range n) i=i:=by rw [D6 (by simpa using h)];simp
theorem Aaw {α:Type} [Inhabited α] {n i:Nat} (x:α) (h:i<n):nth (List.replicate n x) i=x:=by rw [D6 (by simpa using h)];simp
theorem Ava {α:Type} [Inhabited α] (xs:List α) (i j:Nat) (v:α) (h:j<xs.length):nth (xs.set i v) j=if i=j then v else nth xs j:=by
 rw [D6 (by simpa using h),D6 h,List.getElem_set]
theorem Gz {α:Type} [Inhabited α] {xs ys:List α} {i:Nat} (h:i<xs.length):nth (xs++ys) i=nth xs i:=by
 rw [D6 (by simp;omega),D6 h,List.getElem_append_left h]
theorem Zb {α:Type} [Inhabited α] {xs:List α} {y:α}:nth (xs++[y]) xs.length=y:=by
 rw [D6 (by simp)];simp
theorem Pf {α:Type} [Inhabited α] {xs ys:List α} (hl:xs.length=ys.length) (h : ∀i,i<xs.length→nth xs i=nth ys i):xs=ys:=by
 refine List.ext_getElem hl fun i h1 h2=> ?_
 have:=h i h1
 rwa [D6 h1,D6 h2] at this
theorem Gv {α:Type} [Inhabited α] {xs:List α} {x:α}:x∈xs ↔ ∃i,i<xs.length∧nth xs i=x:=by
 constructor
 ·intro h
  obtain ⟨i,h1,h2⟩:=List.mem_iff_getElem.1 h
  exact ⟨i,h1,by rw [D6 h1,h2]⟩
 ·rintro ⟨i,h1,rfl⟩;exact As h1
theorem Dx {α:Type} [Inhabited α] {xs:List α} {i:Nat} (h:i<xs.length):xs.take (i+1)=xs.take i++[nth xs i]:=by
 rw [List.take_add_one,D6 h];simp [h]
theorem A2j {α:Type} (xs:List α) (z v:α) {i n:Nat} (hi:i<n) (hl:xs.length=i):(xs++List.replicate (n-i) z).set i v=(xs++[v])++List.replicate (n-(i+1)) z:=by
 subst hl
 rw [List.set_append_right _ _ (Nat.le_refl _),Nat.sub_self]
 have:n-xs.length=(n-(xs.length+1))+1:=by omega
 rw [this,List.replicate_succ,List.set_cons_zero]
 simp
section
variable {σ τ:Type} {body:σ→Option (σ ⊕ τ)}
theorem R0 {s s':σ} (h:body s=some (.inl s')):Am body s=Am body s':=by rw [Aqy,h]
theorem In {s:σ} {t:τ} (h:body s=some (.inr t)):Am body s=some t:=by rw [Aqy,h]
theorem B9 (s:Nat→σ) (n:Nat) (t:τ) (h : ∀i,i<n→body (s i)=some (.inl (s (i+1)))) (he:body (s n)=some (.inr t)):Am body (s 0)=some t:=by
 have key : ∀k,k≤n→Am body (s 0)=Am body (s k):=by
  intro k
  induction k with
  | zero=>intro _;rfl
  | succ k ih=>intro hk;rw [ih (by omega),R0 (h k (by omega))]
 rw [key n (Nat.le_refl _),In he]
theorem Anx (s:Nat→σ) (i0 n:Nat) (t:τ) (h0:i0≤n) (h : ∀i,i0≤i→i<n→body (s i)=some (.inl (s (i+1)))) (he:body (s n)=some (.inr t)):Am body (s i0)=some t:=by
 have:=B9 (body:=body) (fun k=>s (i0+k)) (n-i0) t (fun i hi=>by simpa [Nat.add_assoc] using h (i0+i) (by omega) (by omega)) (by
  show body (s (i0+(n-i0)))=_
  rw [show i0+(n-i0)=n by omega];exact he)
 simpa using this
theorem Cc (inv:σ→Prop) (μ:σ→Nat) (post:τ→Prop) (h : ∀s,inv s→(∃s',body s=some (.inl s')∧inv s'∧μ s'<μ s)∨(∃t,body s=some (.inr t)∧post t)) : ∀ {s:σ},inv s → ∃t,Am body s=some t∧post t:=by
 have key : ∀k s,μ s≤k→inv s → ∃t,Am body s=some t∧post t:=by
  intro k
  induction k with
  | zero=>
    intro s hk hs
    rcases h s hs with ⟨s',h1,h2,h3⟩ | ⟨t,h1,h2⟩
    ·omega
    ·exact ⟨t,In h1,h2⟩
  | succ k ih=>
    intro s hk hs
    rcases h s hs with ⟨s',h1,h2,h3⟩ | ⟨t,h1,h2⟩
    ·rw [R0 h1];exact ih s' (by omega) h2
    ·exact ⟨t,In h1,h2⟩
 intro s hs
 exact key (μ s) s (Nat.le_refl _) hs
end
open Classical in
theorem Aci {σ α β:Type} {body:σ→Option (σ ⊕ (α ⊕ β))} (s:Nat→σ) (i0 n:Nat) (bad:Nat→Prop) (a:α) (b:β) (hi0:i0≤n)
  (h : ∀i,i0≤i→i<n→¬bad i→body (s i)=some (.inl (s (i+1)))) (hb : ∀i,i0≤i→i<n→bad i→body (s i)=some (.inr (.inl a))) (he:body (s n)=some (.inr (.inr b))) :
  Am body (s i0)=some (if ∃i,i0≤i∧i<n∧bad i then .inl a else .inr b):=by
 by_cases hx : ∃i,i0≤i∧i<n∧bad i
 ·rw [if_pos hx]
  obtain ⟨i,h1,h2,h3,h4⟩ : ∃i,i0≤i∧i<n∧bad i ∧ ∀j,i0≤j→j<i→¬bad j:=by
   have key : ∀k i,i≤k→i0≤i→i<n→bad i → ∃i,i0≤i∧i<n∧bad i ∧ ∀j,i0≤j→j<i→¬bad j:=by
    intro k
    induction k with
    | zero=>intro i hk h1 h2 h3;exact ⟨i,h1,h2,h3,fun j _ hj=>by omega⟩
    | succ k ih=>
      intro i hk h1 h2 h3
      by_cases hy : ∃j,i0≤j∧j<i∧bad j
      ·obtain ⟨j,k1,k2,k3⟩:=hy
       exact ih j (by omega) k1 (by omega) k3
      ·exact ⟨i,h1,h2,h3,fun j k1 k2 k3=>hy ⟨j,k1,k2,k3⟩⟩
   obtain ⟨i,h1,h2,h3⟩:=hx
   exact key i i (Nat.le_refl _) h1 h2 h3
  exact Anx s i0 i (.inl a) h1 (fun j k1 k2=>h j k1 (by omega) (h4 j k1 k2)) (hb i h1 h2 h3)
 ·rw [if_neg hx]
  exact Anx s i0 n (.inr b) hi0 (fun j k1 k2=>h j k1 k2 fun hc=>hx ⟨j,k1,k2,hc⟩) he
open Classical in
theorem Eo {σ α β:Type} {body:σ→Option (σ ⊕ (α ⊕ β))} (s:Nat→σ) (n:Nat) (bad:Nat→Prop) (a:α) (b:β)
  (h : ∀i,i<n→¬bad i→body (s i)=some (.inl (s (i+1)))) (hb : ∀i,i<n→bad i→body (s i)=some (.inr (.inl a))) (he:body (s n)=some (.inr (.inr b))) (i0:Nat) (hi0:i0≤n) :
  Am body (s i0)=some (if ∃i,i0≤i∧i<n∧bad i then .inl a else .inr b):=
 Aci s i0 n bad a b hi0 (fun i _=>h i) (fun i _=>hb i) he
open Classical in
theorem I1 {σ:Type} {body:σ→Option (σ ⊕ (Unit ⊕ Unit))} {s0:σ} {p:Prop} (h:Am body s0=some (if p then .inl () else .inr ())) (x y:Bool) :
  ((Am body s0).bind fun t=>match t with | .inl _=>some x | .inr _=>some y)=some (if p then x else y):=by
 rw [h]
 by_cases hp:p<;>simp [hp]
end Go.Proofs.Ytmmcfdfdacpjgaa.Ax
namespace Go.Proofs.Ytmmcfdfdacpjgaa.Ax
open Go Classical
theorem Av:LIM=4294967296:=rfl
theorem Rp {n:Nat} {p:Nat→Prop}:(¬ ∃i,0≤i∧i<n∧¬p i) ↔ ∀i,i<n→p i:=by
 constructor
 ·intro h i hi;exact Classical.byContradiction fun hc=>h ⟨i,by omega,hi,hc⟩
 ·rintro h ⟨i,_,hi,hc⟩;exact hc (h i hi)
end Go.Proofs.Ytmmcfdfdacpjgaa.Ax
namespace Go.Proofs.Ytmmcfdfdacpjgaa.Ax
open Go Classical
theorem Tj {p q:Prop} [Decidable p] [Decidable q] (h:¬p↔q):(if p then false else true)=decide q:=by
 by_cases hp:p
 ·rw [if_pos hp,decide_eq_false];exact fun hq=>h.2 hq hp
 ·rw [if_neg hp,decide_eq_true (h.1 hp)]
theorem Avg {p q:Prop} [Decidable p] [Decidable q] (h:p↔q):(if p then true else false)=decide q:=by
 by_cases hp:p
 ·rw [if_pos hp,decide_eq_true (h.1 hp)]
 ·rw [if_neg hp,decide_eq_false];exact fun hq=>hp (h.2 hq)
theorem Ui (x a b:Int):Ec x a b=some (decide (a≤x∧x≤b)):=by
 unfold Ec
 split
 ·rename_i h;congr 1;rw [decide_eq_decide];constructor
  ·intro h2;exact ⟨h,h2⟩
  ·exact fun h2=>h2.2
 ·rename_i h;rw [decide_eq_false];exact fun h2=>h h2.1
def A3g (xs:List Int) (lo hi:Int):Prop := ∀i,i<xs.length→(lo≤nth xs i∧nth xs i≤hi)∧(0<i→nth xs (i-1)<nth xs i)
theorem A1o (xs:List Int) (n:Int) (h:xs.length≤LIM):Mg xs n=some (decide (n∈xs)):=by
 unfold Mg
 rw [Av] at h
 have:=Eo (body:=Fo xs n) (fun i=>(i:Int)) xs.length (fun i=>nth xs i=n) () () (fun i hi hb=>by
  unfold Fo
  rw [if_pos (by omega),Ag (by omega)]
  simp only [Int.toNat_natCast]
  rw [if_neg hb,Ag (by unfold InI;omega)];rfl) (fun i hi hb=>by
  unfold Fo
  rw [if_pos (by omega),Ag (by omega)]
  simp only [Int.toNat_natCast]
  rw [if_pos hb]) (by unfold Fo;rw [if_neg (by omega)]) 0 (by omega)
 refine (I1 this true false).trans (congrArg some (Avg ?_))
 rw [Gv]
 constructor
 ·rintro ⟨i,_,h1,h2⟩;exact ⟨i,h1,h2⟩
 ·rintro ⟨i,h1,h2⟩;exact ⟨i,by omega,h1,h2⟩
def Agr (xs:List Int):Prop := ∀i,0<i→i<xs.length→nth xs (i-1)<nth xs i
def Bh (xs:List Int) (n:Int):Prop := ∀x∈xs,0≤x∧x<n
theorem Zq (xs:List Int) (n:Int) (h:xs.length≤LIM):F9 xs n=some (decide (Bh xs n)):=by
 unfold F9
 rw [Av] at h
 have:=Eo (body:=Eu xs n) (fun i=>(i:Int)) xs.length (fun i=>¬(0≤nth xs i∧nth xs i<n)) () () (fun i hi hb=>by
  unfold Eu
  have hb:=Classical.not_not.1 hb
  rw [if_pos (by omega),Ag (by omega)]
  simp only [Int.toNat_natCast]
  rw [if_neg (by omega),if_neg (by omega),Ag (by unfold InI;omega)];rfl) (fun i hi hb=>by
  unfold Eu
  rw [if_pos (by omega),Ag (by omega)]
  simp only [Int.toNat_natCast]
  by_cases h0:nth xs i<0
  ·rw [if_pos h0]
  ·rw [if_neg h0,if_pos (by omega)]) (by unfold Eu;rw [if_neg (by omega)]) 0 (by omega)
 refine (I1 this false true).trans (congrArg some (Tj ?_))
 rw [Rp]
 constructor
 ·intro h x hx;obtain ⟨i,hi,rfl⟩:=Gv.1 hx;exact h i hi
 ·intro h i hi;exact h _ (As hi)
end Go.Proofs.Ytmmcfdfdacpjgaa.Ax
namespace Go.Proofs.Ytmmcfdfdacpjgaa.Ax
open Go Classical
noncomputable def below (xss:List (List Int)) (y x:Nat):Bool:=decide ((y:Int)∈nth xss x)
def good (xss:List (List Int)):Prop:=xss.length≤10∧(∀x,x<xss.length→A3g (nth xss x) 0 (xss.length-1)∧(x:Int)∈nth xss x) ∧
 ∀x,x<xss.length → ∀i,i<(nth xss x).length→¬(nth (nth xss x) i≠x∧(x:Int)∈nth xss (nth (nth xss x) i).toNat) ∧
   ∀z∈nth xss (nth (nth xss x) i).toNat,z∈nth xss x
end Go.Proofs.Ytmmcfdfdacpjgaa.Ax
namespace Go.Proofs.Ytmmcfdfdacpjgaa.Ax
open Go Classical
end Go.Proofs.Ytmmcfdfdacpjgaa.Ax
namespace Go.Proofs.Ytmmcfdfdacpjgaa.Ax
open Go Classical
def A8 (n:Nat) (p:Nat→Bool):List Int:=((List.range n).filter p).map fun i:Nat=>(i:Int)
theorem Ag8 {n:Nat} {p q:Nat→Bool} (h : ∀i,i<n→p i=q i):A8 n p=A8 n q:=by
 unfold A8
 congr 1
 exact List.filter_congr fun i hi=>h i (List.mem_range.1 hi)
theorem W5 (n:Nat) (p:Nat→Bool):A8 (n+1) p=if p n then A8 n p++[(n:Int)] else A8 n p:=by
 unfold A8
 rw [List.range_succ,List.filter_append,List.map_append]
 by_cases h:p n<;>simp [h]
theorem Afj (n:Nat) (p:Nat→Bool):(A8 n p).length≤n:=by
 unfold A8
 rw [List.length_map]
 exact Nat.le_trans (List.length_filter_le _ _) (by simp)
theorem Rl {n:Nat} {p:Nat→Bool} {x:Int}:x∈A8 n p ↔ ∃i:Nat,i<n∧p i=true∧x=i:=by
 unfold A8
 rw [List.mem_map]
 constructor
 ·rintro ⟨i,hi,rfl⟩
  have:=List.mem_filter.1 hi
  exact ⟨i,List.mem_range.1 this.1,this.2,rfl⟩
 ·rintro ⟨i,h1,h2,rfl⟩
  exact ⟨i,List.mem_filter.2 ⟨List.mem_range.2 h1,h2⟩,rfl⟩
theorem An2 {n:Nat} {p:Nat→Bool}:A8 n p=[] ↔ ∀i,i<n→p i=false:=by
 constructor
 ·intro h i hi
  cases hp:p i with
  | false=>rfl
  | true=>
    have:(i:Int)∈A8 n p:=Rl.2 ⟨i,hi,hp,rfl⟩
    rw [h] at this;cases this
 ·intro h
  refine List.eq_nil_iff_forall_not_mem.2 fun x hx=> ?_
  obtain ⟨i,h1,h2,_⟩:=Rl.1 hx
  rw [h i h1] at h2;cases h2
theorem Aud {body:(Int×List Int)→Option ((Int×List Int) ⊕ List Int)} (n:Nat) (p:Nat→Bool)
  (h : ∀(i:Nat) acc,i<n→acc.length≤i→body ((i:Int),acc)=some (.inl (((i+1:Nat):Int),if p i then acc++[(i:Int)] else acc)))
  (he : ∀acc,body ((n:Int),acc)=some (.inr acc)):Am body (0,Ar Int)=some (A8 n p):=by
 have:=B9 (body:=body) (fun i=>((i:Int),A8 i p)) n (A8 n p) (fun i hi=>by
  rw [h i _ hi (Afj i p),W5]) (he _)
 have e:A8 0 p=Ar Int:=rfl
 simp only [e] at this
 exact this
section
theorem Ajz {xs:List Int} (h:Agr xs) : ∀ {j i:Nat},i<j→j<xs.length→nth xs i<nth xs j:=by
 intro j
 induction j with
 | zero=>intro i hi;omega
 | succ j ih=>
   intro i hi hj
   have:=h (j+1) (by omega) hj
   rw [Nat.add_sub_cancel] at this
   by_cases hij:i=j
   ·subst hij;exact this
   ·exact Int.lt_trans (ih (by omega) (by omega)) this
theorem Av8 : ∀ {xs ys:List Int},Agr xs→Agr ys→(∀x,x∈xs↔x∈ys)→xs=ys:=by
 have tl : ∀ {x:Int} {xs:List Int},Agr (x::xs)→Agr xs:=by
  intro x xs h i h1 h2
  have:=h (i+1) (by omega) (by simpa using h2)
  rw [Nat.add_sub_cancel] at this
  have e1:nth (x::xs) (i+1)=nth xs i:=rfl
  have e2:nth (x::xs) i=nth xs (i-1):=by
   cases i with
   | zero=>omega
   | succ i=>rfl
  rw [e1,e2] at this;exact this
 have hd : ∀ {x:Int} {xs:List Int},Agr (x::xs) → ∀y∈xs,x<y:=by
  intro x xs h y hy
  obtain ⟨i,hi,rfl⟩:=Gv.1 hy
  exact Ajz h (i:=0) (j:=i+1) (by omega) (by simpa using hi)
 intro xs
 induction xs with
 | nil=>
   intro ys _ _ h
   cases ys with
   | nil=>rfl
   | cons y r=>have:=(h y).2 (by simp);cases this
 | cons x r ih=>
   intro ys h1 h2 h
   cases ys with
   | nil=>have:=(h x).1 (by simp);cases this
   | cons y s=>
     have e:x=y:=by
      have a:=(h x).1 (by simp)
      have b:=(h y).2 (by simp)
      rcases List.mem_cons.1 a with a | a
      ·exact a
      ·rcases List.mem_cons.1 b with b | b
       ·exact b.symm
       ·have:=hd h2 _ a;have:=hd h1 _ b;omega
     subst e
     congr 1
     refine ih (tl h1) (tl h2) fun z=> ?_
     constructor
     ·intro hz
      rcases List.mem_cons.1 ((h z).1 (by simp [hz])) with e | e
      ·subst e;have:=hd h1 _ hz;omega
      ·exact e
     ·intro hz
      rcases List.mem_cons.1 ((h z).2 (by simp [hz])) with e | e
      ·subst e;have:=hd h2 _ hz;omega
      ·exact e
theorem Agx (n:Nat) (q:Nat→Bool):Agr (A8 n q):=by
 induction n with
 | zero=>intro i h1 h2;simp [A8] at h2
 | succ n ih=>
   rw [W5]
   split
   ·intro i h1 h2
    by_cases hi:i<(A8 n q).length
    ·rw [Gz hi,Gz (by omega)];exact ih i h1 hi
    ·have hi2:i=(A8 n q).length:=by simp at h2;omega
     subst hi2
     rw [Zb,Gz (by omega)]
     obtain ⟨k,hk,_,e⟩:=Rl.1 (As (xs:=A8 n q) (i:=(A8 n q).length-1) (by omega))
     rw [e];omega
   ·exact ih
end
end Go.Proofs.Ytmmcfdfdacpjgaa.Ax
namespace Go.Proofs.Ytmmcfdfdacpjgaa.Ax
open Go Classical
theorem Apm (n:Int):InI n ↔ -9223372036854775808≤n∧n≤9223372036854775807:=Iff.rfl
def Ye (n:Nat) (f:Nat→Bool):List Bool:=(List.range n).map f
theorem Ajs (n:Nat) (f:Nat→Bool):(Ye n f).length=n:=by simp [Ye]
theorem Ail {n:Nat} {f:Nat→Bool} {i:Nat} (h:i<n):nth (Ye n f) i=f i:=by
 unfold Ye;rw [Dr _ (by simpa using h),Ma h]
theorem Azn {n:Nat} {f:Nat→Bool} {i:Nat} {v:Bool} (_h:i<n):(Ye n f).set i v=Ye n fun j=>if j=i then v else f j:=by
 refine Pf (by simp [Ye]) fun j hj=> ?_
 have hj':j<n:=by simpa [Ye] using hj
 rw [Ava _ _ _ _ (by rw [Ajs];exact hj'),Ail hj',Ail hj']
 by_cases e:i=j
 ·rw [if_pos e,if_pos e.symm]
 ·rw [if_neg e,if_neg (Ne.symm e)]
theorem Ajg {n:Nat} {f g:Nat→Bool} (h : ∀i,i<n→f i=g i):Ye n f=Ye n g:=List.map_congr_left fun i hi=>h i (List.mem_range.1 hi)
theorem At8 (n:Nat):List.replicate n false=Ye n fun _=>false:=by
 refine Pf (by simp [Ye]) fun j hj=> ?_
 have hj':j<n:=by simpa using hj
 rw [Ail hj',Aaw _ hj']
theorem Apg (n:Nat) (xs:List Int) (h:xs.length≤LIM) (hn:n≤LIM):Hd n xs=some (decide (Bh xs n)):=by
 unfold Hd
 rw [Av] at h hn
 have e:=Eo (body:=Cy n xs) (fun i=>(i:Int)) xs.length (fun i=>¬(0≤nth xs i∧nth xs i<n)) () () (fun i hi hb=>by
  have hc:0≤nth xs i∧nth xs i≤n-1:=by have:=Classical.not_not.1 hb;omega
  unfold Cy
  simp (disch:=omega) only [Ag,if_pos,if_true,Apm,Int.toNat_natCast,Int.natCast_add,Int.natCast_one,Option.bind_some,Ui,hc,and_self,decide_true]) (fun i hi hb=>by
  have hc:¬(0≤nth xs i∧nth xs i≤n-1):=fun hh=>hb (by omega)
  unfold Cy
  simp (disch:=omega) only [Ag,if_pos,if_false,Apm,Int.toNat_natCast,Option.bind_some,Bool.false_eq_true,Ui,hc,decide_false]) (by
  unfold Cy
  simp (disch:=omega) only [Ag,if_pos,if_neg,Apm,Int.toNat_natCast]) 0 (Nat.zero_le _)
 refine (I1 e false true).trans ?_
 congr 1
 refine Tj ?_
 rw [Rp]
 constructor
 ·intro hh x hx
  obtain ⟨i,hi,rfl⟩:=Gv.1 hx
  exact hh i hi
 ·intro hh i hi
  exact hh _ (As hi)
end Go.Proofs.Ytmmcfdfdacpjgaa.Ax
namespace Go.Proofs.Ytmmcfdfdacpjgaa.Ax
open Go Classical
theorem V5 {σ τ:Type} {body:σ→Option (σ ⊕ τ)} (s:Nat→σ) (n:Nat) (hit:Nat→Prop) (res:Nat→τ) (no:τ)
  (h : ∀i,i<n→¬hit i→body (s i)=some (.inl (s (i+1)))) (h2 : ∀i,i<n→hit i→body (s i)=some (.inr (res i))) (he:body (s n)=some (.inr no)) :
  (∃i,i<n∧hit i∧(∀j,j<i→¬hit j)∧Am body (s 0)=some (res i))∨((∀i,i<n→¬hit i)∧Am body (s 0)=some no):=by
 by_cases hx : ∃i,i<n∧hit i
 ·have key : ∀m i,i≤m→i<n→hit i → ∃i,i<n∧hit i ∧ ∀j,j<i→¬hit j:=by
   intro m
   induction m with
   | zero=>intro i h1 h2 h3;exact ⟨i,h2,h3,fun j hj=>by omega⟩
   | succ m ih=>
     intro i h1 h2 h3
     by_cases hy : ∃j,j<i∧hit j
     ·obtain ⟨j,h4,h5⟩:=hy
      exact ih j (by omega) (by omega) h5
     ·exact ⟨i,h2,h3,fun j hj hh=>hy ⟨j,hj,hh⟩⟩
  obtain ⟨i0,h1,h3⟩:=hx
  obtain ⟨i,h4,h5,h6⟩:=key i0 i0 (Nat.le_refl _) h1 h3
  exact .inl ⟨i,h4,h5,h6,B9 s i (res i) (fun j hj=>h j (by omega) (h6 j hj)) (h2 i h4 h5)⟩
 ·have hn : ∀i,i<n→¬hit i:=fun i hi hh=>hx ⟨i,hi,hh⟩
  exact .inr ⟨hn,B9 s n no (fun j hj=>h j hj (hn j hj)) he⟩
structure Ord (n:Nat) (f:Nat→Nat→Bool):Prop where
 refl : ∀x,x<n→f x x=true
 anti : ∀x y,x<n→y<n→f x y=true→f y x=true→x=y
 trans : ∀x y z,x<n→y<n→z<n→f x y=true→f y z=true→f x z=true
noncomputable def cov (n:Nat) (f:Nat→Nat→Bool) (x y:Nat):Bool:=decide ((x≠y∧f x y=true) ∧ ∀z,z<n→¬((x≠z∧f x z=true)∧(z≠y∧f z y=true)))
end Go.Proofs.Ytmmcfdfdacpjgaa.Ax
namespace Go.Proofs.Ytmmcfdfdacpjgaa.Ax
open Go Classical
end Go.Proofs.Ytmmcfdfdacpjgaa.Ax
namespace Go.Proofs.Ytmmcfdfdacpjgaa.Ax
open Go Classical
end Go.Proofs.Ytmmcfdfdacpjgaa.Ax
namespace Go.Proofs.Ytmmcfdfdacpjgaa.Ax
open Go Classical
end Go.Proofs.Ytmmcfdfdacpjgaa.Ax
namespace Go.Proofs.Ytmmcfdfdacpjgaa.Ax
open Go Classical
section
noncomputable def irr (n:Nat) (f:Nat→Nat→Bool):List Int:=A8 n fun y=>decide ((A8 n fun x=>cov n f x y).length=1)
end
end Go.Proofs.Ytmmcfdfdacpjgaa.Ax
namespace Go.Proofs.Ytmmcfdfdacpjgaa.Ax
open Go Classical
end Go.Proofs.Ytmmcfdfdacpjgaa.Ax
namespace Go.Proofs.Ytmmcfdfdacpjgaa.Ax
open Go Classical
def LeO {α:Type} (a b:Option α):Prop := ∀v,a=some v→b=some v
theorem LeO.refl {α:Type} (a:Option α):LeO a a:=fun _ h=>h
theorem LeO.bind {α β:Type} {a b:Option α} {k l:α→Option β} (h:LeO a b) (hk : ∀x,LeO (k x) (l x)):LeO (a.bind k) (b.bind l):=by
 intro v e
 obtain ⟨x,h1,h2⟩:=Option.bind_eq_some_iff.1 e
 rw [h x h1];exact hk x v h2
theorem LeO.ite {α:Type} {p:Prop} [Decidable p] {a b c d:Option α} (h1:LeO a c) (h2:LeO b d):LeO (if p then a else b) (if p then c else d):=by
 by_cases h:p
 ·rw [if_pos h,if_pos h];exact h1
 ·rw [if_neg h,if_neg h];exact h2
theorem LeO.ask {α:Type} {p:Prop} {a b:Option α} (h:LeO a b):LeO (ask p a) (ask p b):=fun v e=>Sh.2 ⟨(Sh.1 e).1,h v (Sh.1 e).2⟩
theorem LeO.loop {σ τ:Type} {f g:σ→Option (σ ⊕ τ)} (h : ∀s,LeO (f s) (g s)) (s:σ):LeO (Am f s) (Am g s):=by
 intro v e
 obtain ⟨n,hn⟩:=O5.1 e
 refine O5.2 ⟨n,?_⟩
 clear e
 induction n generalizing s with
 | zero=>cases hn
 | succ n ih=>
   simp only [Aht] at hn ⊢
   cases hf:f s with
   | none=>rw [hf] at hn;cases hn
   | some o=>
     rw [hf] at hn
     rw [h s o hf]
     cases o with
     | inl s'=>exact ih s' hn
     | inr t=>exact hn
def mx:Nat→(Nat→Nat)→Nat
 | 0,_=>0
 | n+1,f=>max (mx n f) (f n)
theorem A47 {n:Nat} {f:Nat→Nat} {i:Nat} (h:i<n):f i≤mx n f:=by
 induction n with
 | zero=>omega
 | succ n ih=>
   simp only [mx]
   by_cases e:i=n
   ·subst e;omega
   ·have:=ih (by omega);omega
theorem A40 {n m:Nat} {f:Nat→Nat} (h : ∀i,i<n→f i≤m):mx n f≤m:=by
 induction n with
 | zero=>simp [mx]
 | succ n ih=>
   simp only [mx]
   have:=ih fun i hi=>h i (by omega)
   have:=h n (by omega)
   omega
theorem Azd {n:Nat} {f g:Nat→Nat} (h : ∀i,i<n→f i=g i):mx n f=mx n g:=by
 induction n with
 | zero=>rfl
 | succ n ih=>simp only [mx];rw [ih fun i hi=>h i (by omega),h n (by omega)]
def sm:Nat→(Nat→Nat)→Nat
 | 0,_=>0
 | n+1,f=>sm n f+f n
theorem A2v {n:Nat} {f g:Nat→Nat} (h : ∀i,i<n→f i≤g i):sm n f≤sm n g:=by
 induction n with
 | zero=>exact Nat.le_refl _
 | succ n ih=>simp only [sm];have:=ih fun i hi=>h i (by omega);have:=h n (by omega);omega
theorem A2w {n:Nat} {f g:Nat→Nat} (h : ∀i,i<n→f i≤g i) {j:Nat} (hj:j<n) (hl:f j<g j):sm n f<sm n g:=by
 induction n with
 | zero=>omega
 | succ n ih=>
   simp only [sm]
   by_cases e:j=n
   ·subst e;have:=A2v fun i hi=>h i (Nat.lt_succ_of_lt hi);omega
   ·have:=ih (fun i hi=>h i (by omega)) (by omega);have:=h n (by omega);omega
theorem Aya (n c:Nat):sm n (fun _=>c)=n*c:=by
 induction n with
 | zero=>simp [sm]
 | succ n ih=>simp only [sm,ih,Nat.succ_mul]
def many (n:Nat) (p:Nat→Bool):Nat:=sm n fun i=>if p i then 1 else 0
theorem A1x (n:Nat) (p:Nat→Bool):many n p≤n:=by
 have:=A2v (n:=n) (f:=fun i=>if p i then 1 else 0) (g:=fun _=>1) fun i _=>by (try dsimp only);split<;>omega
 rw [Aya] at this
 unfold many;omega
structure Strict (n:Nat) (r:Nat→Nat→Bool):Prop where
 irr : ∀x,x<n→r x x=false
 tr : ∀x y z,x<n→y<n→z<n→r x y=true→r y z=true→r x z=true
def htn (n:Nat) (r:Nat→Nat→Bool):Nat→Nat→Nat
 | 0,_=>0
 | k+1,x=>mx n fun y=>if r y x then htn n r k y+1 else 0
def ht (n:Nat) (r:Nat→Nat→Bool) (x:Nat):Nat:=htn n r n x
section
variable {n:Nat} {r:Nat→Nat→Bool}
theorem Av5 (h:Strict n r) {x y:Nat} (hx:x<n) (hy:y<n) (hr:r y x=true):many n (fun z=>r z y)<many n (fun z=>r z x):=by
 refine A2w (fun i hi=> ?_) hy ?_
 ·(try dsimp only)
  by_cases e:r i y=true
  ·rw [if_pos e,if_pos (h.tr i y x hi hy hx e hr)];exact Nat.le_refl _
  ·rw [if_neg e];exact Nat.zero_le _
 ·(try dsimp only)
  rw [if_pos hr,if_neg (by rw [h.irr y hy];simp)];exact Nat.zero_lt_one
theorem Atq (h:Strict n r) (k:Nat) : ∀x,x<n→many n (fun z=>r z x)≤k→htn n r k x=htn n r (k+1) x:=by
 induction k with
 | zero=>
   intro x hx hc
   have:htn n r 1 x≤0:=A40 fun y hy=>by
    (try dsimp only)
    rw [if_neg]
    ·exact Nat.le_refl _
    ·intro hr
     have:=Av5 h hx hy hr
     omega
   have e:htn n r 0 x=0:=rfl
   show htn n r 0 x=htn n r 1 x
   omega
 | succ k ih=>
   intro x hx hc
   show mx n _=mx n _
   refine Azd fun y hy=> ?_
   (try dsimp only)
   by_cases hr:r y x=true
   ·have:=Av5 h hx hy hr
    rw [if_pos hr,if_pos hr,ih y hy (by omega)]
   ·rw [if_neg hr,if_neg hr]
theorem A4t (h:Strict n r) {x:Nat} (hx:x<n):ht n r x=mx n fun y=>if r y x then ht n r y+1 else 0:=Atq h n x hx (A1x _ _)
theorem A43 (h:Strict n r) {x y:Nat} (hx:x<n) (hy:y<n) (hr:r y x=true):ht n r y<ht n r x:=by
 rw [A4t h hx]
 have:=A47 (n:=n) (f:=fun y=>if r y x then ht n r y+1 else 0) hy
 (try dsimp only at this)
 rw [if_pos hr] at this
 omega
end
structure LInv (n:Nat) (r:Nat→Nat→Bool) (l:List Int):Prop where
 len:l.length=n
 low : ∀x,x<n→0≤nth l x
 high : ∀x,x<n→nth l x≤ht n r x
def tot (n:Nat) (l:List Int):Nat:=sm n fun i=>(nth l i).toNat
theorem LInv.set {n r l} (h:LInv n r l) (hs:Strict n r) {x y:Nat} (hx:x<n) (hy:y<n) (hr:r y x=true) (hl:nth l x≤nth l y):LInv n r (l.set x (nth l y+1))∧tot n l<tot n (l.set x (nth l y+1)):=by
 have e : ∀i,i<n→nth (l.set x (nth l y+1)) i=if x=i then nth l y+1 else nth l i:=fun i hi=>Ava _ _ _ _ (by rw [h.len];exact hi)
 refine ⟨⟨by rw [List.length_set];exact h.len,fun i hi=> ?_,fun i hi=> ?_⟩,?_⟩
 ·rw [e i hi]
  split
  ·have:=h.low y hy;omega
  ·exact h.low i hi
 ·rw [e i hi]
  split
  ·rename_i e;subst e
   have:=h.high y hy
   have:=A43 hs hx hy hr
   omega
  ·exact h.high i hi
 ·have hlow:=h.low y hy
  refine A2w (fun i hi=> ?_) hx ?_
  ·rw [e i hi]
   split
   ·rename_i e;subst e;omega
   ·exact Nat.le_refl _
  ·rw [e x hx,if_pos rfl];have:=h.low x hx;omega
end Go.Proofs.Ytmmcfdfdacpjgaa.Ax
namespace Go.Proofs.Ytmmcfdfdacpjgaa.Ax
open Go Classical
section
theorem Ajx (a b:Int):I2 a b=some (if a>b then a else b):=by
 unfold I2;split<;>rfl
end
end Go.Proofs.Ytmmcfdfdacpjgaa.Ax
