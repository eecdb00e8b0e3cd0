/-
 Plain facts, joined.
-/
import Derived.Test.YtpfikenknmlajaaPA
namespace Go.Proofs.Ytpfikenknmlajaa.Ax
open Go Classical
theorem To {n:Nat} (h:n≤20):(2:Nat)^n≤1048576:=by
 have:(2:Nat)^n≤2^20:=Nat.pow_le_pow_right (by omega) h
 omega
theorem Lz {n:Nat} (h:n≤20):Il 1 (n:Int)=((2^n:Nat):Int):=by
 have h1:=To h
 have e:min ((n:Int)).toNat IntKind.i64.bits=n:=by
  have:IntKind.i64.bits=64:=rfl
  rw [this,tna0];omega
 unfold Il
 rw [e,Int.one_mul,show ((2:Int)^n)=((2^n:Nat):Int) by simp]
 generalize 2^n=q at h1 ⊢
 exact S5 (by omega) (by omega)
theorem Ajc (m:Nat) {x:Nat} (h:x≤20):Adn (m:Int) (x:Int)=((m/2^x:Nat):Int):=by
 have e:min ((x:Int)).toNat IntKind.i64.bits=x:=by
  have:IntKind.i64.bits=64:=rfl
  rw [this,tna0];omega
 unfold Adn
 rw [e,Int.fdiv_eq_ediv_of_nonneg _ (Int.pow_nonneg (by omega)),show ((2:Int)^x)=((2^x:Nat):Int) by simp]
 rfl
theorem At5 {m:Nat} (h:m≤1048576):Ahh (m:Int) 1=((m%2:Nat):Int):=by
 unfold Ahh
 have e:(BitVec.ofInt IntKind.i64.bits (m:Int) &&& BitVec.ofInt IntKind.i64.bits 1).toNat=m%2:=by
  have hb:IntKind.i64.bits=64:=rfl
  rw [hb,BitVec.toNat_and,BitVec.toNat_ofInt,BitVec.toNat_ofInt]
  have e1:((m:Int)%((2^64:Nat):Int)).toNat=m:=by omega
  have e2:((1:Int)%((2^64:Nat):Int)).toNat=1:=by decide
  rw [e1,e2,Nat.and_one_is_mod]
 rw [e]
 exact S5 (by omega) (by omega)
def Bt (m i:Nat):Bool:=decide (m/2^i%2=1)
theorem Awz {q:Nat→Bool} {i:Nat} : ∀ {n:Nat},i≤n→(∀j,i≤j→j<n→q j=false)→Al n q=Al i q:=by
 intro n
 induction n with
 | zero => intro h _;have:i=0:=by omega
           subst this;rfl
 | succ n ih=>
   intro h hq
   by_cases hi:i=n+1
   ·subst hi;rfl
   ·rw [Rb,hq n (by omega) (by omega),if_neg (by simp)]
    exact ih (by omega) fun j h1 h2=>hq j h1 (by omega)
theorem A47 {m i j:Nat} (h:m/2^i=0) (hj:i≤j):Bt m j=false:=by
 have h1:m<2^i:=by
  rcases Nat.lt_or_ge m (2^i) with h1 | h1
  ·exact h1
  ·have:=Nat.div_pos h1 (Nat.pow_pos (by omega));omega
 have h2:(2:Nat)^i≤2^j:=Nat.pow_le_pow_right (by omega) hj
 unfold Bt
 rw [Nat.div_eq_of_lt (by omega)];simp
theorem Arb {body:(Int×List Int)→Option ((Int×List Int) ⊕ List Int)} {m n:Nat} (hm:m<2^n)
  (h0 : ∀(i:Nat) acc,i≤n→m/2^i=0→body ((i:Int),acc)=some (.inr acc))
  (h1 : ∀(i:Nat) acc,i<n→acc.length≤i→¬m/2^i=0→body ((i:Int),acc)=some (.inl (((i+1:Nat):Int),if Bt m i then acc++[(i:Int)] else acc))):Aj body (0,Ar Int)=some (Al n (Bt m)):=by
 have e0:((0:Int),Ar Int)=(((0:Nat):Int),Al 0 (Bt m)):=rfl
 rw [e0]
 rcases L0 (body:=body) (fun i=>((i:Int),Al i (Bt m))) n (fun i=>m/2^i=0) (fun i=>Al i (Bt m)) (Al n (Bt m)) (fun i hi hh=>by
   rw [h1 i _ hi (G9 _ _) hh,Rb]) (fun i hi hh=>h0 i _ (by omega) hh) (h0 n _ (Nat.le_refl _) (Nat.div_eq_of_lt hm)) with ⟨i,hi,hh,_,e⟩ | ⟨_,e⟩
 ·rw [e,Awz (q:=Bt m) (n:=n) (by omega) fun j hj _=>A47 hh hj]
 ·exact e
theorem Axu (m i:Nat):m/2^i≤m:=Nat.div_le_self _ _
theorem A4p {m n:Nat} (hn:n≤20) (hm:m<2^n):Mo (m:Int)=some (Al n (Bt m)):=by
 unfold Mo
 have hp:=To hn
 rw [Arb (body:=Ha (m:Int)) hm (fun i acc hi hh=>by
  unfold Ha
  dsimp only
  rw [Ae (by omega),Ajc m (by omega),hh,if_neg (by omega)]) (fun i acc hi ha hh=>by
  unfold Ha Bt
  dsimp only
  have hd:=Axu m i
  rw [Ae (by omega),Ajc m (by omega)]
  generalize m/2^i=q at *
  rw [if_pos (by omega),Ae (by omega),At5 (by omega)]
  by_cases hb:q%2=1
  ·rw [if_pos (by omega),Ae (by rw [Ao];simp;omega),Ae (by unfold InI;omega),dtr0 hb,if_pos rfl];rfl
  ·rw [if_neg (by omega),Ae (by unfold InI;omega),dfa0 hb,if_neg (by simp)];rfl)]
 rfl
theorem A44 {m n:Nat} (hn:n≤20) (hm:m<2^n):Ms (m:Int)=some (Al n (Bt m)):=by
 unfold Ms
 have hp:=To hn
 rw [Arb (body:=Hb (m:Int)) hm (fun i acc hi hh=>by
  unfold Hb
  dsimp only
  rw [Ae (by omega),Ajc m (by omega),hh,if_neg (by omega)]) (fun i acc hi ha hh=>by
  unfold Hb Bt
  dsimp only
  have hd:=Axu m i
  rw [Ae (by omega),Ajc m (by omega)]
  generalize m/2^i=q at *
  rw [if_pos (by omega),Ae (by omega),At5 (by omega)]
  by_cases hb:q%2=1
  ·rw [if_pos (by omega),Ae (by rw [Ao];simp;omega),Ae (by unfold InI;omega),dtr0 hb,if_pos rfl];rfl
  ·rw [if_neg (by omega),Ae (by unfold InI;omega),dfa0 hb,if_neg (by simp)];rfl)]
 rfl
def Awb (a b:List Int):Prop := ∃i,i<a.length∧(∀j,j<i→nth a j=nth b j)∧nth a i<nth b i
theorem A2h {a b:List Int} (hl:a.length=b.length) (h:a.length≤LIM):Mu a b=some (decide (Awb a b)):=by
 unfold Mu
 rw [Ao] at h
 rw [show ((0:Int))=(((0:Nat)):Int) from rfl]
 rcases L0 (body:=F0 a b) (fun i=>(i:Int)) a.length (fun i=>nth a i≠nth b i) (fun i=> .inl (decide (nth a i<nth b i))) (.inr ()) (fun i hi hh=>by
   unfold F0
   rw [if_pos (by omega),Ae (by omega),Ae (by omega),tna0,if_neg hh,Ae (by unfold InI;omega)];rfl) (fun i hi hh=>by
   unfold F0
   rw [if_pos (by omega),Ae (by omega),Ae (by omega),tna0,if_pos hh,Ae (by omega),Ae (by omega)]) (by
   unfold F0
   rw [if_neg (by omega)]) with ⟨i,hi,hh,hf,e⟩ | ⟨hn,e⟩
 ·rw [e]
  simp only [obs0]
  congr 1
  rw [decide_eq_decide]
  constructor
  ·intro hlt
   exact ⟨i,hi,fun j hj=>Classical.not_not.1 (hf j hj),hlt⟩
  ·rintro ⟨k,hk,h1,h2⟩
   rcases Nat.lt_trichotomy k i with hki | hki | hki
   ·have:=Classical.not_not.1 (hf k hki);omega
   ·subst hki;exact h2
   ·exact absurd (h1 i hki) hh
 ·rw [e,dfa0]
  ·rfl
  ·rintro ⟨k,hk,_,h2⟩
   have:=Classical.not_not.1 (hn k hk);omega
theorem Amv {a b:List Int} (hl:a.length=b.length) (h:a.length≤LIM) : ∃c,G1 a b=some c∧(¬c≥0↔Awb a b):=by
 unfold G1
 rw [Ao] at h
 rw [show ((0:Int))=(((0:Nat)):Int) from rfl]
 rcases L0 (body:=C5 a b) (fun i=>(i:Int)) a.length (fun i=>nth a i≠nth b i) (fun i=> .inl (if nth a i<nth b i then -1 else 1)) (.inr ()) (fun i hi hh=>by
   unfold C5
   rw [if_pos (by omega),if_pos (by omega)]
   simp only [obs0]
   rw [Ae (by omega),Ae (by omega),tna0,if_neg hh,Ae (by unfold InI;omega)];rfl) (fun i hi hh=>by
   unfold C5
   rw [if_pos (by omega),if_pos (by omega)]
   simp only [obs0]
   rw [Ae (by omega),Ae (by omega),tna0,if_pos hh,Ae (by omega),Ae (by omega)]
   split<;>rfl) (by
   unfold C5
   rw [if_neg (by omega)];rfl) with ⟨i,hi,hh,hf,e⟩ | ⟨hn,e⟩
 ·rw [e]
  refine ⟨_,rfl,?_⟩
  constructor
  ·intro hlt
   refine ⟨i,hi,fun j hj=>Classical.not_not.1 (hf j hj),?_⟩
   by_cases hc:nth a i<nth b i
   ·exact hc
   ·rw [if_neg hc] at hlt;omega
  ·rintro ⟨k,hk,h1,h2⟩
   have hki:k=i:=by
    rcases Nat.lt_trichotomy k i with hki | hki | hki
    ·have:=Classical.not_not.1 (hf k hki);omega
    ·exact hki
    ·exact absurd (h1 i hki) hh
   subst hki
   rw [if_pos h2];omega
 ·rw [e]
  simp only [obs0]
  rw [if_neg (by omega),if_neg (by omega)]
  refine ⟨_,rfl,?_⟩
  constructor
  ·intro hc;omega
  ·rintro ⟨k,hk,_,h2⟩
   have:=Classical.not_not.1 (hn k hk);omega
def anti (f:Nat→Nat→Bool) (ls:List Int):Prop := ∀x∈ls,∀y∈ls,¬(x.toNat≠y.toNat∧f x.toNat y.toNat=true)
theorem Am3 (n:Nat) (q:Nat→Bool):Fy (Al n q) n:=by
 intro x hx
 obtain ⟨z,h1,_,rfl⟩:=Dv.1 hx
 omega
theorem A4g (f:Nat→Nat→Bool) (n:Nat) (q:Nat→Bool):anti f (Al n q) ↔ ∀i,i<(Al n q).length → ∀k,k<i→¬(f (nth (Al n q) k).toNat (nth (Al n q) i).toNat=true∨f (nth (Al n q) i).toNat (nth (Al n q) k).toNat=true):=by
 have hr:=K8 n q
 have hin:=Am3 n q
 generalize Al n q=ls at hr hin
 constructor
 ·intro h i hi k hk hc
  have hlt:=Aiv hr hk hi
  have h1:=hin _ (Ba hi)
  have h2:=hin _ (Ba (show k<ls.length by omega))
  rcases hc with hc | hc
  ·exact h _ (Ba (show k<ls.length by omega)) _ (Ba hi) ⟨by omega,hc⟩
  ·exact h _ (Ba hi) _ (Ba (show k<ls.length by omega)) ⟨by omega,hc⟩
 ·intro h x hx y hy hc
  obtain ⟨a,ha,rfl⟩:=Hu.1 hx
  obtain ⟨b,hb,rfl⟩:=Hu.1 hy
  rcases Nat.lt_trichotomy a b with hab | hab | hab
  ·exact h b hb a hab (.inl hc.2)
  ·subst hab;exact hc.1 rfl
  ·exact h a ha b hab (.inr hc.2)
section
variable {p:SPoset}
def Azn (f:Nat→Nat→Bool) (ls:List Int):Prop := ∀i,i<ls.length → ∀k,k<i→¬(f (nth ls k).toNat (nth ls i).toNat=true∨f (nth ls i).toNat (nth ls k).toNat=true)
theorem A6w (hs:small p) (ls:List Int) (hsl:ls.length≤p.Below.length) (hin:Fy ls p.Below.length):Hg p ls=some (decide (Azn (below p.Below) ls)):=by
 unfold Hg
 have hs0:=hs.1
 rw [Ao] at hs0
 have hleq : ∀i k,i<ls.length→k<ls.length→Gc p (nth ls k) (nth ls i)=some (below p.Below (nth ls k).toNat (nth ls i).toNat):=by
  intro i k hi hk
  have h1:=hin _ (Ba hi)
  have h2:=hin _ (Ba hk)
  have:=Apl hs (nth ls k).toNat (nth ls i).toNat (by omega)
  rw [show (((nth ls k).toNat:Nat):Int)=nth ls k by omega,show (((nth ls i).toNat:Nat):Int)=nth ls i by omega] at this
  exact this
 have inner : ∀i,i<ls.length→(∃k,k<i∧(below p.Below (nth ls k).toNat (nth ls i).toNat=true∨below p.Below (nth ls i).toNat (nth ls k).toNat=true)∧Aj (De p ls (i:Int)) 0=some (.inl ())) ∨
   ((∀k,k<i→¬(below p.Below (nth ls k).toNat (nth ls i).toNat=true∨below p.Below (nth ls i).toNat (nth ls k).toNat=true))∧Aj (De p ls (i:Int)) 0=some (.inr ())):=by
  intro i hi
  rcases L0 (body:=De p ls (i:Int)) (fun k=>(k:Int)) i (fun k=>below p.Below (nth ls k).toNat (nth ls i).toNat=true∨below p.Below (nth ls i).toNat (nth ls k).toNat=true) (fun _=> .inl ()) (.inr ()) (fun k hk hh=>by
    unfold De
    rw [if_pos (by omega),Ae (by omega),Ae (by omega),tna0,tna0,hleq i k hi (by omega)]
    simp only [obs0]
    rw [if_neg (fun h=>hh (.inl h)),Ae (by omega),Ae (by omega),hleq k i (by omega) hi]
    simp only [obs0]
    rw [if_neg (fun h=>hh (.inr h)),Ae (by unfold InI;omega)];rfl) (fun k hk hh=>by
    unfold De
    rw [if_pos (by omega),Ae (by omega),Ae (by omega),tna0,tna0,hleq i k hi (by omega)]
    simp only [obs0]
    by_cases h1:below p.Below (nth ls k).toNat (nth ls i).toNat=true
    ·rw [if_pos h1]
    ·rw [if_neg h1,Ae (by omega),Ae (by omega),hleq k i (by omega) hi]
     simp only [obs0]
     rw [if_pos (hh.resolve_left h1)]) (by
    unfold De
    rw [if_neg (by omega)]) with ⟨k,hk,hh,_,e⟩ | ⟨hn,e⟩
  ·exact .inl ⟨k,hk,hh,e⟩
  ·exact .inr ⟨hn,e⟩
 rw [show ((0:Int))=(((0:Nat)):Int) from rfl] at inner
 rw [show ((0:Int))=(((0:Nat)):Int) from rfl]
 rcases L0 (body:=E7 p ls) (fun i=>(i:Int)) ls.length (fun i => ∃k,k<i∧(below p.Below (nth ls k).toNat (nth ls i).toNat=true∨below p.Below (nth ls i).toNat (nth ls k).toNat=true)) (fun _=> .inl ()) (.inr ()) (fun i hi hh=>by
   unfold E7
   rw [if_pos (by omega)]
   rcases inner i hi with ⟨k,hk,hb,_⟩ | ⟨_,e⟩
   ·exact absurd ⟨k,hk,hb⟩ hh
   ·rw [show ((0:Int))=(((0:Nat)):Int) from rfl,e]
    simp only [obs0]
    rw [Ae (by unfold InI;omega)];rfl) (fun i hi hh=>by
   unfold E7
   rw [if_pos (by omega)]
   rcases inner i hi with ⟨_,_,_,e⟩ | ⟨hb,_⟩
   ·rw [show ((0:Int))=(((0:Nat)):Int) from rfl,e];rfl
   ·obtain ⟨k,hk,hc⟩:=hh
    exact absurd hc (hb k hk)) (by
   unfold E7
   rw [if_neg (by omega)]) with ⟨i,hi,⟨k,hk,hh⟩,_,e⟩ | ⟨hn,e⟩
 ·rw [e,dfa0 (show ¬Azn (below p.Below) ls from fun hc=>hc i hi k hk hh)];rfl
 ·rw [e,dtr0 (show Azn (below p.Below) ls from fun i hi k hk hc=>hn i hi ⟨k,hk,hc⟩)];rfl
theorem Arz (hs:small p) (q:Nat→Bool):Hg p (Al p.Below.length q)=some (decide (anti (below p.Below) (Al p.Below.length q))):=by
 rw [A6w hs _ (G9 _ _) (Am3 _ _),decide_eq_decide.2 (show Azn (below p.Below) (Al p.Below.length q)↔anti (below p.Below) (Al p.Below.length q) from (A4g (below p.Below) p.Below.length q).symm)]
theorem A4t {n:Nat} {f:Nat→Nat→Bool} (hn:n≤LIM) (b:Bool) (ls:List Int) (hin:Fy ls n) (hl:ls.length≤n) (m:Int) (best:List Int) (i:Nat) (hi:i<ls.length) (acc:Bool) :
  Aj (Bl (tab n f,b) m best ls (i:Int)) (0,acc)=some (acc&&decide (∀y∈ls,¬((nth ls i).toNat≠y.toNat∧f (nth ls i).toNat y.toNat=true))):=by
 rw [Ao] at hn
 have key:Aj (Bl (tab n f,b) m best ls (i:Int)) (((0:Nat):Int),acc&&decide (∀y∈ls.take 0,¬((nth ls i).toNat≠y.toNat∧f (nth ls i).toNat y.toNat=true)))=some (acc&&decide (∀y∈ls.take ls.length,¬((nth ls i).toNat≠y.toNat∧f (nth ls i).toNat y.toNat=true))):=
  Az (body:=Bl (tab n f,b) m best ls (i:Int)) (fun k=>((k:Int),acc&&decide (∀y∈ls.take k,¬((nth ls i).toNat≠y.toNat∧f (nth ls i).toNat y.toNat=true)))) ls.length _ (fun k hk=>by
   unfold Bl
   dsimp only
   have h1:=hin _ (Ba hi)
   have h2:=hin _ (Ba hk)
   have hless:=M6 n f (nth ls i).toNat (nth ls k).toNat (by omega) (by omega)
   rw [show (((nth ls k).toNat:Nat):Int)=nth ls k by omega,show (((nth ls i).toNat:Nat):Int)=nth ls i by omega] at hless
   rw [if_pos (by omega),Ae (by omega),tna0,tna0]
   have hstep:(∀y∈ls.take (k+1),¬((nth ls i).toNat≠y.toNat∧f (nth ls i).toNat y.toNat=true))↔(∀y∈ls.take k,¬((nth ls i).toNat≠y.toNat∧f (nth ls i).toNat y.toNat=true))∧¬((nth ls i).toNat≠(nth ls k).toNat∧f (nth ls i).toNat (nth ls k).toNat=true):=Aie hk
   by_cases ha:(acc&&decide (∀y∈ls.take k,¬((nth ls i).toNat≠y.toNat∧f (nth ls i).toNat y.toNat=true)))=true
   ·rw [if_pos ha,hless]
    simp only [obs0]
    rw [Ae (by unfold InI;omega)]
    simp only [Bool.and_eq_true,decide_eq_true_eq] at ha
    congr 4
    rw [ha.1,Bool.true_and,Bool.eq_iff_iff,decide_eq_true_eq,hstep]
    simp only [Bool.not_eq_true',Bool.and_eq_false_iff,decide_eq_false_iff_not]
    constructor
    ·intro h
     refine ⟨ha.2,fun hc=> ?_⟩
     rcases h with h | h
     ·exact h hc.1
     ·rw [hc.2] at h;cases h
    ·rintro ⟨_,h⟩
     by_cases hne:(nth ls i).toNat≠(nth ls k).toNat
     ·refine .inr ?_
      cases hf:f (nth ls i).toNat (nth ls k).toNat
      ·rfl
      ·exact absurd ⟨hne,hf⟩ h
     ·exact .inl hne
   ·rw [if_neg ha,Ae (by unfold InI;omega)]
    congr 4
    symm
    rw [Bool.eq_false_iff]
    intro hc
    apply ha
    simp only [Bool.and_eq_true,decide_eq_true_eq] at hc ⊢
    exact ⟨hc.1,(hstep.1 hc.2).1⟩) (by
   unfold Bl
   dsimp only
   rw [if_neg (by omega)])
 rw [List.take_length] at key
 have e0:((0:Int),acc)=(((0:Nat):Int),acc&&decide (∀y∈ls.take 0,¬((nth ls i).toNat≠y.toNat∧f (nth ls i).toNat y.toNat=true))):=by simp
 rw [e0]
 exact key
theorem A6u {n:Nat} {f:Nat→Nat→Bool} (hn:n≤LIM) (b:Bool) (ls:List Int) (hin:Fy ls n) (hl:ls.length≤n) (m:Int) (best:List Int) :
  Aj (Bi (tab n f,b) m best ls) (0,true)=some (decide (anti f ls)):=by
 have hn':=hn
 rw [Ao] at hn'
 have key:Aj (Bi (tab n f,b) m best ls) (((0:Nat):Int),decide (∀x∈ls.take 0,∀y∈ls,¬(x.toNat≠y.toNat∧f x.toNat y.toNat=true)))=some (decide (∀x∈ls.take ls.length,∀y∈ls,¬(x.toNat≠y.toNat∧f x.toNat y.toNat=true))):=
  Az (body:=Bi (tab n f,b) m best ls) (fun k=>((k:Int),decide (∀x∈ls.take k,∀y∈ls,¬(x.toNat≠y.toNat∧f x.toNat y.toNat=true)))) ls.length _ (fun k hk=>by
   unfold Bi
   dsimp only
   rw [if_pos (by omega),Ae (by omega),A4t hn b ls hin hl m best k hk]
   simp only [obs0]
   rw [Ae (by unfold InI;omega),←Bool.decide_and,decide_eq_decide.2 (Aie (P:=fun x => ∀y∈ls,¬(x.toNat≠y.toNat∧f x.toNat y.toNat=true)) hk).symm]
   rfl) (by
   unfold Bi
   dsimp only
   rw [if_neg (by omega)])
 rw [List.take_length] at key
 have e0:((0:Int),true)=(((0:Nat):Int),decide (∀x∈ls.take 0,∀y∈ls,¬(x.toNat≠y.toNat∧f x.toNat y.toNat=true))):=by simp
 rw [e0,key]
 exact congrArg some (decide_eq_decide.2 Iff.rfl)
noncomputable def bst (n:Nat) (f:Nat→Nat→Bool):Nat→List Int
 | 0=>[]
 | m+1=>if ((Al n (Bt m)).length>(bst n f m).length∨((Al n (Bt m)).length=(bst n f m).length∧Awb (Al n (Bt m)) (bst n f m)))∧anti f (Al n (Bt m)) then Al n (Bt m) else bst n f m
theorem Asi (n:Nat) (f:Nat→Nat→Bool) : ∀m,(bst n f m).length≤n:=by
 intro m
 induction m with
 | zero=>simp [bst]
 | succ m ih=>
   simp only [bst]
   split
   ·exact G9 _ _
   ·exact ih
theorem A0z (hs:small p) (h10:p.Below.length≤10):Ig p=some (bst p.Below.length (below p.Below) (2^p.Below.length)):=by
 unfold Ig
 have hp:=To (show p.Below.length≤20 by omega)
 have key:Aj (Dl p) (((0:Nat):Int),bst p.Below.length (below p.Below) 0)=some (bst p.Below.length (below p.Below) (2^p.Below.length)):=
  Az (body:=Dl p) (fun m=>((m:Int),bst p.Below.length (below p.Below) m)) (2^p.Below.length) _ (fun m hm=>by
   unfold Dl
   dsimp only
   have hl1:=G9 p.Below.length (Bt m)
   have hl2:=Asi p.Below.length (below p.Below) m
   rw [Ae (by omega),Lz (by omega),if_pos (by omega),A4p (by omega) hm]
   simp only [obs0]
   by_cases h1:(Al p.Below.length (Bt m)).length>(bst p.Below.length (below p.Below) m).length
   ·rw [if_pos (by omega),Arz hs]
    simp only [obs0,bst]
    by_cases ha:anti (below p.Below) (Al p.Below.length (Bt m))
    ·rw [dtr0 ha,if_pos rfl,Ae (by unfold InI;omega),if_pos ⟨.inl h1,ha⟩];rfl
    ·rw [dfa0 ha,if_neg (by simp),Ae (by unfold InI;omega),if_neg (fun hc=>ha hc.2)];rfl
   ·rw [if_neg (by omega)]
    by_cases h2:(Al p.Below.length (Bt m)).length=(bst p.Below.length (below p.Below) m).length
    ·rw [if_pos (by omega),A2h h2 (by rw [Ao];omega)]
     simp only [obs0,bst]
     by_cases hx:Awb (Al p.Below.length (Bt m)) (bst p.Below.length (below p.Below) m)
     ·rw [dtr0 hx,if_pos rfl,Arz hs]
      simp only [obs0]
      by_cases ha:anti (below p.Below) (Al p.Below.length (Bt m))
      ·rw [dtr0 ha,if_pos rfl,Ae (by unfold InI;omega),if_pos ⟨.inr ⟨h2,hx⟩,ha⟩];rfl
      ·rw [dfa0 ha,if_neg (by simp),Ae (by unfold InI;omega),if_neg (fun hc=>ha hc.2)];rfl
     ·rw [dfa0 hx,if_neg (by simp),Ae (by unfold InI;omega),if_neg (fun hc=>hc.1.elim h1 fun hc=>hx hc.2)];rfl
    ·rw [if_neg (by omega),Ae (by unfold InI;omega)]
     simp only [bst]
     rw [if_neg (fun hc=>hc.1.elim h1 fun hc=>h2 hc.1)];rfl) (by
   unfold Dl
   dsimp only
   rw [Ae (by omega),Lz (by omega),if_neg (by omega)])
 have e0:((0:Int),Ar Int)=(((0:Nat):Int),bst p.Below.length (below p.Below) 0):=rfl
 rw [e0,key];rfl
theorem Aq3 {n:Nat} {f:Nat→Nat→Bool} (h10:n≤10) (b:Bool):Aj (Bk (tab n f,b)) (0,Ar Int)=some (bst n f (2^n)):=by
 have hp:=To (show n≤20 by omega)
 have htl:=Bw n f
 have hL:n≤LIM:=by rw [Ao];omega
 have key:Aj (Bk (tab n f,b)) (((0:Nat):Int),bst n f 0)=some (bst n f (2^n)):=
  Az (body:=Bk (tab n f,b)) (fun m=>((m:Int),bst n f m)) (2^n) _ (fun m hm=>by
   unfold Bk
   dsimp only
   have hl1:=G9 n (Bt m)
   have hl2:=Asi n f m
   rw [htl,Ae (by omega),Lz (by omega),if_pos (by omega),A44 (by omega) hm]
   simp only [obs0,bst]
   have hap:=A6u (f:=f) hL b (Al n (Bt m)) (Am3 _ _) hl1 (m:Int) (bst n f m)
   by_cases h1:(Al n (Bt m)).length<(bst n f m).length
   ·rw [if_pos (by omega)]
    simp only [obs0]
    rw [Ae (by unfold InI;omega),if_neg (fun hc=>by rcases hc.1 with hc | hc<;>omega)];rfl
   ·rw [if_neg (by omega)]
    by_cases h2:(Al n (Bt m)).length=(bst n f m).length
    ·rw [if_pos (by omega)]
     obtain ⟨c,e,hc⟩:=Amv h2 (by rw [Ao];omega)
     rw [e]
     simp only [obs0]
     by_cases h3:c≥0
     ·rw [if_pos h3]
      simp only [obs0]
      rw [Ae (by unfold InI;omega),if_neg (fun hx=>hx.1.elim (fun hx=>by omega) fun hx=>hc.2 hx.2 h3)];rfl
     ·rw [if_neg h3]
      simp only [obs0]
      rw [hap]
      simp only [obs0]
      by_cases ha:anti f (Al n (Bt m))
      ·rw [dtr0 ha,if_pos rfl,Ae (by unfold InI;omega),if_pos ⟨.inr ⟨h2,hc.1 h3⟩,ha⟩];rfl
      ·rw [dfa0 ha,if_neg (by simp),Ae (by unfold InI;omega),if_neg (fun hx=>ha hx.2)];rfl
    ·rw [if_neg (by omega)]
     simp only [obs0]
     rw [hap]
     simp only [obs0]
     by_cases ha:anti f (Al n (Bt m))
     ·rw [dtr0 ha,if_pos rfl,Ae (by unfold InI;omega),if_pos ⟨.inl (by omega),ha⟩];rfl
     ·rw [dfa0 ha,if_neg (by simp),Ae (by unfold InI;omega),if_neg (fun hx=>ha hx.2)];rfl) (by
   unfold Bk
   dsimp only
   rw [htl,Ae (by omega),Lz (by omega),if_neg (by omega)])
 have e0:((0:Int),Ar Int)=(((0:Nat):Int),bst n f 0):=rfl
 rw [e0]
 exact key
end
end Go.Proofs.Ytpfikenknmlajaa.Ax
namespace Go.Proofs.Ytpfikenknmlajaa.Ax
open Go Classical
theorem Gj (m i:Nat):Bt m i=m.testBit i:=by
 unfold Bt
 rw [Nat.testBit_eq_decide_div_mod_eq]
theorem Aml {m i n:Nat} (hn:n≤20) (hm:m<2^n) (hi:i≤20):Ahh (Adn (m:Int) (i:Int)) 1=if Bt m i then 1 else 0:=by
 have hp:=To hn
 have hd:=Axu m i
 rw [Ajc m hi]
 unfold Bt
 generalize m/2^i=q at *
 rw [At5 (by omega)]
 by_cases h:q%2=1
 ·rw [dtr0 h,if_pos rfl];omega
 ·rw [dfa0 h,if_neg (by simp)];omega
def D9 (m x:Nat):Nat:=m ||| 2^x
theorem A5h {m x n:Nat} (hn:n≤20) (hm:m<2^n) (hx:x<n):orI (m:Int) (Il 1 (x:Int))=(D9 m x:Int):=by
 have hp:=To hn
 have h2:(2:Nat)^x<2^n:=Nat.pow_lt_pow_right (by omega) hx
 have h3:m ||| 2^x<2^n:=Nat.or_lt_two_pow hm h2
 rw [Lz (by omega)]
 unfold orI D9
 have hb:IntKind.i64.bits=64:=rfl
 have e:(BitVec.ofInt IntKind.i64.bits (m:Int) ||| BitVec.ofInt IntKind.i64.bits ((2^x:Nat):Int)).toNat=m ||| 2^x:=by
  rw [hb,BitVec.toNat_or,BitVec.toNat_ofInt,BitVec.toNat_ofInt]
  generalize 2^x=q at *
  have e1:((m:Int)%((2^64:Nat):Int)).toNat=m:=by omega
  have e2:((q:Int)%((2^64:Nat):Int)).toNat=q:=by omega
  rw [e1,e2]
 rw [e]
 generalize m ||| 2^x=q at *
 exact S5 (by omega) (by omega)
theorem W0 {m x n:Nat} (hm:m<2^n) (hx:x<n):D9 m x<2^n:=Nat.or_lt_two_pow hm (Nat.pow_lt_pow_right (by omega) hx)
theorem Aip (m x i:Nat):Bt (D9 m x) i=(Bt m i || decide (x=i)):=by
 rw [Gj,Gj]
 unfold D9
 rw [Nat.testBit_or,Nat.testBit_two_pow]
theorem Amk {m x:Nat} (h:Bt m x=false):m<D9 m x:=by
 have h1:m≤D9 m x:=Nat.left_le_or
 rcases Nat.lt_or_ge m (D9 m x) with h2 | h2
 ·exact h2
 ·have h3:D9 m x=m:=Nat.le_antisymm h2 h1
  have:=Aip m x x
  rw [h3,h] at this
  simp at this
def pc (n m:Nat):Nat:=(Al n (Bt m)).length
theorem Akg {q q':Nat→Bool} {x:Nat} (hq:q x=false) (h : ∀i,q' i=(q i || decide (x=i))) : ∀n,(Al n q').length=(Al n q).length+if x<n then 1 else 0:=by
 intro n
 induction n with
 | zero=>simp [Al]
 | succ n ih=>
   rw [Rb,Rb,h n]
   by_cases hxn:x=n
   ·subst hxn
    rw [hq]
    simp only [decide_true,Bool.or_true,if_true,Bool.false_eq_true,if_false]
    rw [List.length_append,ih,if_neg (by omega),if_pos (by omega)];rfl
   ·rw [dfa0 hxn,Bool.or_false]
    by_cases hqn:q n=true
    ·rw [if_pos hqn,if_pos hqn,List.length_append,List.length_append,ih]
     by_cases hx:x<n
     ·rw [if_pos hx,if_pos (by omega)];simp
     ·rw [if_neg hx,if_neg (by omega)];rfl
    ·rw [if_neg hqn,if_neg hqn,ih]
     by_cases hx:x<n
     ·rw [if_pos hx,if_pos (by omega)]
     ·rw [if_neg hx,if_neg (by omega)]
theorem At3 {n m x:Nat} (hx:x<n) (h:Bt m x=false):pc n (D9 m x)=pc n m+1:=by
 unfold pc
 rw [Akg h (Aip m x) n,if_pos hx]
theorem A7e (n m:Nat):pc n m≤n:=G9 _ _
def wt (n m:Nat):Nat:=10^(10-pc n m)
theorem A8n (n m:Nat):1≤wt n m:=Nat.pow_pos (by omega)
theorem A77 {n m x:Nat} (h10:n≤10) (hx:x<n) (h:Bt m x=false):10*wt n (D9 m x)=wt n m:=by
 have h1:=A7e n (D9 m x)
 rw [At3 hx h] at h1
 unfold wt
 rw [At3 hx h,show 10-pc n m=(10-(pc n m+1))+1 by omega,Nat.pow_succ,Nat.mul_comm]
def phi (n:Nat) (ws:List Int):Nat→Nat→Int
 | _,0=>0
 | M,k+1=>nth ws M*wt n M+phi n ws (M+1) k
theorem Awq {n:Nat} {ws:List Int} {j:Nat} {v:Int} : ∀k M,M+k≤ws.length→(j<M∨M+k≤j)→phi n (ws.set j v) M k=phi n ws M k:=by
 intro k
 induction k with
 | zero=>intro M _ _;rfl
 | succ k ih=>
   intro M h1 h2
   simp only [phi]
   rw [Bm _ _ _ _ (by omega),if_neg (by omega),ih (M+1) (by omega) (by omega)]
theorem Axf {n:Nat} {ws:List Int} {j:Nat} {v:Int} : ∀k M,M+k≤ws.length→M≤j→j<M+k→phi n (ws.set j v) M k=phi n ws M k+(v-nth ws j)*wt n j:=by
 intro k
 induction k with
 | zero=>intro M _ _ _;omega
 | succ k ih=>
   intro M h1 h2 h3
   simp only [phi]
   rw [Bm _ _ _ _ (by omega)]
   by_cases hj:j=M
   ·subst hj
    rw [if_pos rfl,Awq k (j+1) (by omega) (by omega),Int.sub_mul];omega
   ·rw [if_neg hj,ih (M+1) (by omega) (by omega) (by omega)];omega
theorem Aya {n:Nat} {ws:List Int} (h : ∀i,i<ws.length→0≤nth ws i) : ∀k M,M+k≤ws.length→0≤phi n ws M k:=by
 intro k
 induction k with
 | zero=>intro M _;exact Int.le_refl _
 | succ k ih=>
   intro M hM
   simp only [phi]
   have h1:=ih (M+1) (by omega)
   have h2:0≤nth ws M*(wt n M:Int):=Int.mul_nonneg (h M (by omega)) (by omega)
   omega
theorem Aze {n:Nat} {ws:List Int} (h : ∀i,i<ws.length→0≤nth ws i) : ∀k M j,M+k≤ws.length→M≤j→j<M+k→nth ws j≤phi n ws M k:=by
 intro k
 induction k with
 | zero=>intro M j _ _ _;omega
 | succ k ih=>
   intro M j h1 h2 h3
   simp only [phi]
   have hw:=A8n n M
   have h0:=h M (by omega)
   have hp:=Aya (n:=n) h k (M+1) (by omega)
   have hm:nth ws M*1≤nth ws M*(wt n M:Int):=Int.mul_le_mul_of_nonneg_left (by omega) h0
   by_cases hj:j=M
   ·subst hj;omega
   ·have:=ih (M+1) j (by omega) (by omega) (by omega);omega
section
variable {n:Nat} {f:Nat→Nat→Bool}
noncomputable def Ho (n:Nat) (f:Nat→Nat→Bool) (m x:Nat):Bool:=decide (Bt m x=false ∧ ∀y,y<n→y≠x→f y x=true→Bt m y=true)
noncomputable def Aop (n:Nat) (f:Nat→Nat→Bool) (m x:Nat) (ws:List Int):List Int:=if ¬nth ws m=0∧Ho n f m x=true then ws.set (D9 m x) (nth ws (D9 m x)+nth ws m) else ws
noncomputable def inn (n:Nat) (f:Nat→Nat→Bool) (m:Nat) (ws:List Int):Nat→List Int
 | 0=>ws
 | x+1=>Aop n f m x (inn n f m ws x)
noncomputable def Eh (n:Nat) (f:Nat→Nat→Bool):Nat→List Int
 | 0=>(List.replicate (2^n) (0:Int)).set 0 1
 | m+1=>inn n f m (Eh n f m) n
theorem Lx {m x:Nat} (h:Ho n f m x=true):Bt m x=false:=(of_decide_eq_true h).1
theorem A3b (m x:Nat) (ws:List Int):(Aop n f m x ws).length=ws.length:=by
 unfold Aop;split<;>simp
theorem Aii (m:Nat) (ws:List Int) : ∀x,(inn n f m ws x).length=ws.length:=by
 intro x
 induction x with
 | zero=>rfl
 | succ x ih=>simp only [inn];rw [A3b,ih]
theorem Ane (m:Nat) (ws:List Int) (hm:m<ws.length) : ∀x,nth (inn n f m ws x) m=nth ws m:=by
 intro x
 induction x with
 | zero=>rfl
 | succ x ih=>
   simp only [inn]
   unfold Aop
   split
   ·rename_i hc
    have:=Amk (Lx hc.2)
    rw [Bm _ _ _ _ (by rw [Aii];exact hm),if_neg (by omega)];exact ih
   ·exact ih
theorem Avm (m:Nat) (ws:List Int) (_hm:m<ws.length) (h0:nth ws m=0) : ∀x,inn n f m ws x=ws:=by
 intro x
 induction x with
 | zero=>rfl
 | succ x ih=>
   simp only [inn]
   rw [ih]
   unfold Aop
   rw [if_neg (fun hc=>hc.1 h0)]
structure okW (n m:Nat) (ws:List Int):Prop where
 len:ws.length=2^n
 pos : ∀i,i<ws.length→0≤nth ws i
 sum:phi n ws m (2^n-m)≤10000000000
theorem A3w (h10:n≤10) {m:Nat} (hm:m<2^n) {ws:List Int} (h:okW n m ws) : ∀x,x≤n→(inn n f m ws x).length=2^n∧(∀i,i<(inn n f m ws x).length→0≤nth (inn n f m ws x) i) ∧
  phi n (inn n f m ws x) (m+1) (2^n-m-1)+(10-x:Int)*(nth ws m*((wt n m/10:Nat):Int))≤10000000000:=by
 have hlen:=h.len
 have hsum:=h.sum
 have h0:=h.pos m (by omega)
 have hms:2^n-m=(2^n-m-1)+1:=by omega
 rw [hms] at hsum
 simp only [phi] at hsum
 intro x
 induction x with
 | zero=>
   intro _
   refine ⟨hlen,h.pos,?_⟩
   show phi n ws (m+1) (2^n-m-1)+(10-((0:Nat):Int))*(nth ws m*((wt n m/10:Nat):Int))≤10000000000
   have h1:nth ws m*((10*(wt n m/10):Nat):Int)≤nth ws m*(wt n m:Int):=Int.mul_le_mul_of_nonneg_left (by have:=Nat.mul_div_le (wt n m) 10;omega) h0
   rw [Int.natCast_mul,Int.mul_left_comm] at h1
   simp only [Int.natCast_zero,Int.sub_zero]
   have h2:((10:Nat):Int)=10:=rfl
   rw [h2] at h1
   omega
 | succ x ih=>
   intro hx
   obtain ⟨i1,i2,i3⟩:=ih (by omega)
   have hat:=Ane (n:=n) (f:=f) m ws (by omega) x
   have hb:0≤nth ws m*((wt n m/10:Nat):Int):=Int.mul_nonneg h0 (by omega)
   have hsplit:(10-(x:Int))*(nth ws m*((wt n m/10:Nat):Int))=(10-((x+1:Nat):Int))*(nth ws m*((wt n m/10:Nat):Int))+nth ws m*((wt n m/10:Nat):Int):=by
    rw [show (10-(x:Int))=(10-((x+1:Nat):Int))+1 by omega,Int.add_mul,Int.one_mul]
   rw [hsplit] at i3
   simp only [inn]
   unfold Aop
   split
   ·rename_i hc
    have hbit:=Lx hc.2
    have hgt:=Amk hbit
    have hlt:=W0 hm (show x<n by omega)
    have hw:=A77 h10 (show x<n by omega) hbit
    have hdiv:wt n m/10=wt n (D9 m x):=by omega
    refine ⟨by rw [List.length_set];exact i1,fun i hi=> ?_,?_⟩
    ·rw [List.length_set] at hi
     rw [Bm _ _ _ _ hi]
     split
     ·have:=i2 (D9 m x) (by omega)
      rw [hat];omega
     ·exact i2 i hi
    ·have e:nth (inn n f m ws x) (D9 m x)+nth ws m-nth (inn n f m ws x) (D9 m x)=nth ws m:=by omega
     rw [Axf _ _ (by omega) (by omega) (by omega),hat,e,←hdiv]
     omega
   ·exact ⟨i1,i2,by omega⟩
theorem Acu (h10:n≤10) : ∀m,m≤2^n→okW n m (Eh n f m):=by
 intro m
 induction m with
 | zero=>
   intro _
   have hpos:0<2^n:=Nat.pow_pos (by omega)
   have hl:(Eh n f 0).length=2^n:=by simp [Eh]
   have hz : ∀i,i<2^n→nth (Eh n f 0) i=if 0=i then 1 else 0:=fun i hi=>by
    simp only [Eh]
    rw [Bm _ _ _ _ (by simpa using hi),Bh _ hi]
   refine ⟨hl,fun i hi=> ?_,?_⟩
   ·rw [hz i (by omega)];split<;>omega
   ·have hrest : ∀k M,0<M→M+k≤2^n→phi n (Eh n f 0) M k=0:=by
     intro k
     induction k with
     | zero=>intro M _ _;rfl
     | succ k ih=>
       intro M h1 h2
       simp only [phi]
       rw [hz M (by omega),if_neg (by omega),ih (M+1) (by omega) (by omega)];simp
    rw [show 2^n-0=(2^n-1)+1 by omega]
    simp only [phi]
    rw [hz 0 hpos,if_pos rfl,hrest _ 1 (by omega) (by omega)]
    have:wt n 0≤10^10:=Nat.pow_le_pow_right (by omega) (by omega)
    omega
 | succ m ih=>
   intro hm
   have h:=ih (by omega)
   obtain ⟨i1,i2,i3⟩:=A3w (f:=f) h10 (show m<2^n by omega) h n (Nat.le_refl _)
   refine ⟨i1,i2,?_⟩
   have hb:0≤nth (Eh n f m) m*((wt n m/10:Nat):Int):=Int.mul_nonneg (h.pos m (by rw [h.len];omega)) (by omega)
   have hc:0≤(10-(n:Int))*(nth (Eh n f m) m*((wt n m/10:Nat):Int)):=Int.mul_nonneg (by omega) hb
   have:2^n-(m+1)=2^n-m-1:=by omega
   rw [this]
   show phi n (inn n f m (Eh n f m) n) (m+1) (2^n-m-1)≤10000000000
   omega
theorem A29 (h10:n≤10) {m x:Nat} (hm:m<2^n) (hx:x<n) (hf:Ho n f m x=true) :
  D9 m x<(inn n f m (Eh n f m) x).length∧m<(inn n f m (Eh n f m) x).length∧nth (inn n f m (Eh n f m) x) m=nth (Eh n f m) m∧0≤nth (inn n f m (Eh n f m) x) (D9 m x)+nth (Eh n f m) m∧nth (inn n f m (Eh n f m) x) (D9 m x)+nth (Eh n f m) m≤20000000000:=by
 have h:=Acu (f:=f) h10 m (by omega)
 obtain ⟨i1,i2,i3⟩:=A3w (f:=f) h10 hm h x (by omega)
 have hgt:=Amk (Lx hf)
 have hlt:=W0 hm hx
 have h0:=h.pos m (by rw [h.len];omega)
 have hb:0≤nth (Eh n f m) m*((wt n m/10:Nat):Int):=Int.mul_nonneg h0 (by omega)
 have hc:0≤(10-(x:Int))*(nth (Eh n f m) m*((wt n m/10:Nat):Int)):=Int.mul_nonneg (by omega) hb
 have h1:=Aze (n:=n) i2 (2^n-m-1) (m+1) (D9 m x) (by omega) (by omega) (by omega)
 have h2:=Aze (n:=n) h.pos (2^n-m) m m (by rw [h.len];omega) (Nat.le_refl _) (by omega)
 have h3:=h.sum
 have h4:=i2 (D9 m x) (by omega)
 exact ⟨by omega,by omega,Ane m _ (by rw [h.len];exact hm) x,by omega,by omega⟩
end
section
variable {p:SPoset}
theorem Ayj (hs:small p) (hg:good p.Below) {m x:Nat} (hm:m<2^p.Below.length) (hx:x<p.Below.length) (ws:List Int) :
  Aj (Bv p (m:Int) (x:Int) ws) (0,Ahh (Adn (m:Int) (x:Int)) 1==0)=some (Ho p.Below.length (below p.Below) m x):=by
 have h10:p.Below.length≤10:=hg.1
 have hrow:=(Yf hg x hx).2
 have hlen:=hs.2 _ (Ba hx)
 rw [Ao] at hlen
 let acc:Nat→Prop:=fun k=>Bt m x=false ∧ ∀y∈(nth p.Below x).take k,y=(x:Int)∨Bt m y.toNat=true
 have e0:(Ahh (Adn (m:Int) (x:Int)) 1==0)=decide (acc 0):=by
  rw [Aml (by omega) hm (by omega)]
  by_cases h:Bt m x=true
  ·rw [if_pos h]
   exact (dfa0 (fun hc:acc 0=>by have:=hc.1;rw [h] at this;cases this)).symm
  ·rw [if_neg h]
   exact (dtr0 (show acc 0 from ⟨by simpa using h,fun y hy=>by simp at hy⟩)).symm
 rw [e0,show ((0:Int))=(((0:Nat)):Int) from rfl]
 have hend:Ho p.Below.length (below p.Below) m x=decide (acc (nth p.Below x).length):=by
  unfold Ho
  rw [decide_eq_decide]
  simp only [acc,List.take_length]
  constructor
  ·rintro ⟨h1,h2⟩
   refine ⟨h1,fun y hy=> ?_⟩
   have:=hrow y hy
   by_cases hyx:y=(x:Int)
   ·exact .inl hyx
   ·exact .inr (h2 y.toNat (by omega) (by omega) ((Ar8 _ _).1 (by rw [show ((y.toNat:Nat):Int)=y by omega];exact hy)))
  ·rintro ⟨h1,h2⟩
   refine ⟨h1,fun y hy hyx hf=> ?_⟩
   rcases h2 (y:Int) ((Ar8 _ _).2 hf) with h | h
   ·omega
   ·simpa using h
 have hmono : ∀k k',k≤k'→acc k'→acc k:=fun k k' hk hc=>⟨hc.1,fun y hy=>hc.2 y (by
  have e:(nth p.Below x).take k=((nth p.Below x).take k').take k:=by rw [List.take_take,Nat.min_eq_left hk]
  rw [e] at hy
  exact List.mem_of_mem_take hy)⟩
 rcases L0 (body:=Bv p (m:Int) (x:Int) ws) (fun k=>((k:Int),decide (acc k))) (nth p.Below x).length (fun k=>¬acc k) (fun _=>false) (decide (acc (nth p.Below x).length)) (fun k hk hh=>by
   have ha:acc k:=Classical.not_not.1 hh
   unfold Bv
   dsimp only
   have hyr:=hrow _ (Ba hk)
   rw [Ae (by omega),tna0,tna0,if_pos (by omega),dtr0 ha,if_pos rfl]
   simp only [obs0]
   rw [Ae (by omega),Ae (by omega)]
   have hst:acc (k+1)↔(nth (nth p.Below x) k=(x:Int)∨Bt m (nth (nth p.Below x) k).toNat=true):=by
    constructor
    ·intro hc;exact ((Aie (P:=fun y=>y=(x:Int)∨Bt m y.toNat=true) hk).1 hc.2).2
    ·intro hc;exact ⟨ha.1,(Aie (P:=fun y=>y=(x:Int)∨Bt m y.toNat=true) hk).2 ⟨ha.2,hc⟩⟩
   by_cases hyx:nth (nth p.Below x) k=(x:Int)
   ·rw [if_pos hyx,Ae (by unfold InI;omega),dtr0 (hst.2 (.inl hyx))];rfl
   ·rw [if_neg hyx,Ae (by omega),Ae (by omega),Ae (by omega),Ae (by unfold InI;omega)]
    have hc:nth (nth p.Below x) k=(((nth (nth p.Below x) k).toNat:Nat):Int):=by omega
    have ha2:=Aml (m:=m) (i:=(nth (nth p.Below x) k).toNat) (n:=p.Below.length) (by omega) hm (by omega)
    rw [←hc] at ha2
    rw [ha2,decide_eq_decide.2 hst]
    by_cases hbb:Bt m (nth (nth p.Below x) k).toNat=true
    ·rw [if_pos hbb,dtr0 (Or.inr hbb)];rfl
    ·rw [if_neg hbb,dfa0 (fun hc2=>Or.elim hc2 hyx hbb)];rfl) (fun k hk hh=>by
   unfold Bv
   dsimp only
   rw [Ae (by omega),tna0,if_pos (by omega),dfa0 hh,if_neg (by simp)]
   rfl) (by
   unfold Bv
   dsimp only
   rw [Ae (by omega),tna0,if_neg (by omega)]
   rfl) with ⟨k,hk,hh,_,e⟩ | ⟨hn,e⟩
 ·rw [e,hend,dfa0 (fun hc=>hh (hmono k _ (by omega) hc))]
 ·rw [e,hend]
theorem Avb (hs:small p) (hg:good p.Below) {m:Nat} (hm:m<2^p.Below.length) :
  Aj (Bu p (m:Int)) (0,Eh p.Below.length (below p.Below) m)=some (inn p.Below.length (below p.Below) m (Eh p.Below.length (below p.Below) m) p.Below.length):=by
 have h10:p.Below.length≤10:=hg.1
 have hok:=Acu (f:=below p.Below) h10 m (by omega)
 have hlen:=hok.len
 have hpw:=To (show p.Below.length≤20 by omega)
 have e0:((0:Int),Eh p.Below.length (below p.Below) m)=(((0:Nat):Int),inn p.Below.length (below p.Below) m (Eh p.Below.length (below p.Below) m) 0):=rfl
 rw [e0]
 by_cases hz:nth (Eh p.Below.length (below p.Below) m) m=0
 ·rw [Avm m _ (by omega) hz,Avm m _ (by omega) hz]
  refine D2 ?_
  unfold Bu
  dsimp only
  by_cases hn:p.Below.length=0
  ·rw [if_neg (by omega)];rfl
  ·rw [if_pos (by omega),Ae (by omega),tna0,hz,if_neg (by omega)];rfl
 ·have hpos:=hok.pos m (by omega)
  refine Az (body:=Bu p (m:Int)) (fun x=>((x:Int),inn p.Below.length (below p.Below) m (Eh p.Below.length (below p.Below) m) x)) p.Below.length _ (fun x hx=> ?_) ?_
  ·unfold Bu
   dsimp only
   have hil:=Aii (n:=p.Below.length) (f:=below p.Below) m (Eh p.Below.length (below p.Below) m) x
   have hia:=Ane (n:=p.Below.length) (f:=below p.Below) m (Eh p.Below.length (below p.Below) m) (by omega) x
   rw [if_pos (by omega),Ae (by omega),tna0,hia,if_pos (by omega)]
   simp only [obs0]
   rw [Ae (by omega),Ayj hs hg hm hx]
   simp only [obs0]
   by_cases hf:Ho p.Below.length (below p.Below) m x=true
   ·obtain ⟨s1,s2,s3,s4,s5⟩:=A29 h10 hm hx hf
    rw [if_pos hf,A5h (by omega) hm hx,tna0]
    rw [Ae (by omega),Ae (by omega),Ae (by omega),Ae (by omega),Ae (by unfold InI;omega),Ae (by omega),Ae (by unfold InI;omega)]
    simp only [inn]
    unfold Aop
    rw [hia,if_pos ⟨hz,hf⟩]
    rfl
   ·rw [if_neg hf,Ae (by unfold InI;omega)]
    simp only [inn]
    unfold Aop
    rw [if_neg (fun hc=>hf hc.2)]
    rfl
  ·unfold Bu
   dsimp only
   rw [if_neg (by omega)];rfl
theorem Ala (hg:good p.Below) {m:Nat} (hm:m<2^p.Below.length) (b:Bool) :
  Aj (Ca (tab p.Below.length (below p.Below),b) (m:Int) (Eh p.Below.length (below p.Below) m)) (0,Eh p.Below.length (below p.Below) m)=some (inn p.Below.length (below p.Below) m (Eh p.Below.length (below p.Below) m) p.Below.length):=by
 have h10:p.Below.length≤10:=hg.1
 have hL:p.Below.length≤LIM:=by rw [Ao];omega
 have hok:=Acu (f:=below p.Below) h10 m (by omega)
 have hlen:=hok.len
 have htl:=Bw p.Below.length (below p.Below)
 have hpw:=To (show p.Below.length≤20 by omega)
 have e0:((0:Int),Eh p.Below.length (below p.Below) m)=(((0:Nat):Int),inn p.Below.length (below p.Below) m (Eh p.Below.length (below p.Below) m) 0):=rfl
 rw [e0]
 refine Az (body:=Ca (tab p.Below.length (below p.Below),b) (m:Int) (Eh p.Below.length (below p.Below) m)) (fun x=>((x:Int),inn p.Below.length (below p.Below) m (Eh p.Below.length (below p.Below) m) x)) p.Below.length _ (fun x hx=> ?_) ?_
 ·unfold Ca
  dsimp only
  have hil:=Aii (n:=p.Below.length) (f:=below p.Below) m (Eh p.Below.length (below p.Below) m) x
  have hia:=Ane (n:=p.Below.length) (f:=below p.Below) m (Eh p.Below.length (below p.Below) m) (by omega) x
  rw [if_pos (by omega),Ae (by omega),Aml (by omega) hm (by omega),tna0]
  simp only [inn]
  unfold Aop
  rw [hia]
  by_cases hb:Bt m x=true
  ·rw [hb,if_pos rfl,if_pos rfl]
   simp only [obs0]
   rw [Ae (by unfold InI;omega),if_neg (fun hc=>by have:=Lx hc.2;rw [hb] at this;cases this)]
   rfl
  ·have hb':Bt m x=false:=by simpa using hb
   rw [hb',if_neg (by simp)]
   by_cases hz:nth (Eh p.Below.length (below p.Below) m) m=0
   ·rw [if_pos hz]
    simp only [obs0]
    rw [Ae (by unfold InI;omega),if_neg (fun hc=>hc.1 hz)]
    rfl
   ·rw [if_neg hz]
    simp only [obs0]
    rw [Ay0 (n:=p.Below.length) (p:=fun y=>(decide (y≠x)&&below p.Below y x) && !Bt m y) htl hL (fun y hy=>by
     unfold Gd
     rw [M6 _ _ y x hy hx]
     simp only [obs0]
     by_cases hl:(decide (y≠x)&&below p.Below y x)=true
     ·rw [if_pos hl,Ae (by omega),Aml (by omega) hm (by omega),hl]
      cases Bt m y<;>simp
     ·rw [if_neg hl]
      have:(decide (y≠x)&&below p.Below y x)=false:=by simpa using hl
      rw [this];rfl)]
    simp only [obs0]
    have hfr:(∀i,i<p.Below.length→((decide (i≠x)&&below p.Below i x) && !Bt m i)=false)↔Ho p.Below.length (below p.Below) m x=true:=by
     unfold Ho
     rw [decide_eq_true_eq]
     constructor
     ·intro h
      refine ⟨hb',fun y hy hyx hf=> ?_⟩
      have:=h y hy
      rw [dtr0 hyx,hf] at this
      simpa using this
     ·rintro ⟨_,h⟩ y hy
      by_cases hyx:y≠x
      ·cases hf:below p.Below y x
       ·simp
       ·rw [h y hy hyx hf];simp
      ·simp [hyx]
    by_cases hf:Ho p.Below.length (below p.Below) m x=true
    ·obtain ⟨s1,s2,s3,s4,s5⟩:=A29 h10 hm hx hf
     rw [dtr0 (hfr.2 hf),if_pos rfl,A5h (by omega) hm hx,tna0]
     rw [Ae (by omega),Ae (by omega),Ae (by omega),Ae (by unfold InI;omega),Ae (by omega),Ae (by unfold InI;omega),if_pos ⟨hz,hf⟩]
     rfl
    ·rw [dfa0 (fun hc=>hf (hfr.1 hc)),if_neg (by simp),Ae (by unfold InI;omega),if_neg (fun hc=>hf hc.2)]
     rfl
 ·unfold Ca
  dsimp only
  rw [if_neg (by omega)]
theorem Acm (hs:small p) : ∃r,Eu p=some r∧Bx p=some r:=by
 unfold Eu Bx
 rw [Tg p hs.1 hs.2]
 simp only [obs0]
 by_cases hg:good p.Below
 ·have h10:p.Below.length≤10:=hg.1
  have htl:=Bw p.Below.length (below p.Below)
  have hpw:=To (show p.Below.length≤20 by omega)
  have hpos:0<2^p.Below.length:=Nat.pow_pos (by omega)
  have hend:=(Acu (f:=below p.Below) h10 (2^p.Below.length) (Nat.le_refl _)).len
  rw [Hs p hs.1 hs.2 hg,dtr0 hg]
  simp only [obs0,if_true,htl,Lz (show p.Below.length≤20 by omega),tna0]
  have k1:Aj (Cb p) (0,(List.replicate (2^p.Below.length) (0:Int)).set (Int.toNat 0) 1)=some (Eh p.Below.length (below p.Below) (2^p.Below.length)):=
   Az (body:=Cb p) (fun m=>((m:Int),Eh p.Below.length (below p.Below) m)) (2^p.Below.length) _ (fun m hm=>by
    unfold Cb
    dsimp only
    rw [Ae (by omega),Lz (by omega),if_pos (by omega),Avb hs hg hm]
    simp only [obs0]
    rw [Ae (by unfold InI;omega)];rfl) (by
    unfold Cb
    dsimp only
    rw [Ae (by omega),Lz (by omega),if_neg (by omega)])
  have k2:Aj (A5 (tab p.Below.length (below p.Below),true)) (0,(List.replicate (2^p.Below.length) (0:Int)).set (Int.toNat 0) 1)=some (Eh p.Below.length (below p.Below) (2^p.Below.length)):=
   Az (body:=A5 (tab p.Below.length (below p.Below),true)) (fun m=>((m:Int),Eh p.Below.length (below p.Below) m)) (2^p.Below.length) _ (fun m hm=>by
    unfold A5
    dsimp only
    have hl:=(Acu (f:=below p.Below) h10 m (by omega)).len
    rw [htl,Lz (by omega),tna0,List.length_set,List.length_replicate,if_pos (by omega),Ae (by omega),Ala hg hm true]
    simp only [obs0]
    rw [Ae (by unfold InI;omega)];rfl) (by
    unfold A5
    dsimp only
    rw [htl,Lz (by omega),tna0,List.length_set,List.length_replicate,if_neg (by omega)])
  rw [k1,k2]
  simp only [obs0,hend]
  generalize 2^p.Below.length=N at *
  repeat rw [Ae (by first | omega | (rw [Ao];omega) | (unfold InI;omega))]
  exact ⟨_,rfl,rfl⟩
 ·obtain ⟨o,e⟩:=Ark p hs.1 hs.2 hg
  rw [e,dfa0 hg]
  exact ⟨(0,false),by simp,by simp⟩
end
end Go.Proofs.Ytpfikenknmlajaa.Ax
namespace Go.Proofs.Ytpfikenknmlajaa.Ax
open Go Classical
def dg (i:Nat):Nat→Nat→Bool:=fun a b=>decide (a=b∧a<i)
def Aql (f:Nat→Nat→Bool) (x y:Nat) (v:Bool):Nat→Nat→Bool:=fun a b=>if a=x∧b=y then v else f a b
theorem Yv (n:Nat) (f:Nat→Nat→Bool) (x y:Nat) (v:Bool) (hx:x<n) (hy:y<n):(tab n f).set x ((nth (tab n f) x).set y v)=tab n (Aql f x y v):=Att n f x y v hx hy
def Acb (f:Nat→Nat→Bool) (ps:List (Int×Int)):Nat→Nat→Nat→Bool
 | 0=>f
 | k+1=>Aql (Acb f ps k) (nth ps k).1.toNat (nth ps k).2.toNat true
def wy (f:Nat→Nat→Bool) (z x:Nat):Nat→Nat→Nat→Bool
 | 0=>f
 | y+1=>Aql (wy f z x y) x y (wy f z x y x y || (wy f z x y x z&&wy f z x y z y))
def wx (n:Nat) (f:Nat→Nat→Bool) (z:Nat):Nat→Nat→Nat→Bool
 | 0=>f
 | x+1=>wy (wx n f z x) z x n
def wz (n:Nat) (f:Nat→Nat→Bool):Nat→Nat→Nat→Bool
 | 0=>f
 | z+1=>wx n (wz n f z) z n
def Aaz (n:Nat) (p:Int×Int):Prop:=((0≤p.1∧p.1<n)∧0≤p.2∧p.2<n)∧p.1≠p.2
def A1d (n:Nat) (ps:List (Int×Int)):Nat→Nat→Bool:=wz n (Acb (dg n) ps ps.length) n
section
variable {n:Nat} {ps:List (Int×Int)}
theorem A7x (h10:n≤10) (r:List (List Bool)) (hr:r.length=n):Aj (Dm ps r) (0,tab n fun _ _=>false)=some (tab n (dg n)):=by
 have e0:tab n (fun _ _=>false)=tab n (dg 0):=Tj fun a b _ _=>by simp [dg]
 rw [e0]
 refine Az (body:=Dm ps r) (fun i=>((i:Int),tab n (dg i))) n _ (fun i hi=> ?_) ?_
 ·unfold Dm
  dsimp only
  have h1:=Bw n (dg i)
  have h2:=Gk n (dg i) i hi
  rw [if_pos (by omega),Ae (by omega),tna0,Ae (by omega),Ae (by unfold InI;omega),Yv n _ i i true hi hi]
  have:tab n (Aql (dg i) i i true)=tab n (dg (i+1)):=Tj fun a b _ _=>by
   unfold Aql dg
   by_cases hc:a=i∧b=i
   ·rw [if_pos hc,dtr0 (by omega)]
   ·rw [if_neg hc,decide_eq_decide];omega
  rw [this];rfl
 ·unfold Dm
  dsimp only
  rw [if_neg (by omega)]
theorem A71 (h10:n≤10) (h60:ps.length≤60):(Aj (Ch ps) (0,tab n (dg n))=some (.inl ()) ∧ ∃i,i<ps.length∧¬Aaz n (nth ps i)) ∨
  (Aj (Ch ps) (0,tab n (dg n))=some (.inr (tab n (Acb (dg n) ps ps.length))) ∧ ∀i,i<ps.length→Aaz n (nth ps i)):=by
 have hhas : ∀f:Nat→Nat→Bool,∀x y:Int,F4 (tab n f) [x,y]=some (decide ((0≤x∧x<n)∧0≤y∧y<n)):=fun f x y=>by
  rw [A7f _ _ (by rw [Ao];simp),Bw]
  congr 1
  rw [decide_eq_decide];exact A5y
 rcases L0 (body:=Ch ps) (fun i=>((i:Int),tab n (Acb (dg n) ps i))) ps.length (fun i=>¬Aaz n (nth ps i)) (fun _=> .inl ()) (.inr (tab n (Acb (dg n) ps ps.length))) (fun i hi hh=>by
   have hok:=Classical.not_not.1 hh
   obtain ⟨⟨⟨a1,a2⟩,a3,a4⟩,a5⟩:=hok
   unfold Ch
   dsimp only
   rw [if_pos (by omega),Ae (by omega),tna0,hhas,dtr0 (show (0≤(nth ps i).1∧(nth ps i).1<n)∧0≤(nth ps i).2∧(nth ps i).2<n from ⟨⟨a1,a2⟩,a3,a4⟩)]
   simp only [obs0,if_true]
   rw [if_neg a5]
   simp only [obs0]
   have h1:=Bw n (Acb (dg n) ps i)
   have h2:=Gk n (Acb (dg n) ps i) (nth ps i).1.toNat (by omega)
   rw [Ae (by omega),Ae (by omega),Ae (by unfold InI;omega),Yv n _ _ _ true (by omega) (by omega)]
   rfl) (fun i hi hh=>by
   unfold Ch
   dsimp only
   rw [if_pos (by omega),Ae (by omega),tna0,hhas]
   by_cases hc:(0≤(nth ps i).1∧(nth ps i).1<n)∧0≤(nth ps i).2∧(nth ps i).2<n
   ·rw [dtr0 hc]
    simp only [obs0,if_true]
    rw [if_pos (Classical.not_not.1 fun hne=>hh ⟨hc,hne⟩)];rfl
   ·rw [dfa0 hc]
    simp) (by
   unfold Ch
   dsimp only
   rw [if_neg (by omega)]) with ⟨i,hi,hh,_,e⟩ | ⟨hn,e⟩
 ·exact .inl ⟨e,i,hi,hh⟩
 ·exact .inr ⟨e,fun i hi=>Classical.not_not.1 (hn i hi)⟩
theorem Au6 {f:Nat→Nat→Bool} {z x y:Nat} (hz:z<n) (hx:x<n) (hy:y<n) (h10:n≤10) {α:Type} (k:List (List Bool)→Option α) :
  (ask (0≤(x:Int)∧(x:Int)<(tab n f).length) <|
  ask (0≤(x:Int)∧(x:Int)<(tab n f).length) <|
  ask (0≤(y:Int)∧(y:Int)<(nth (tab n f) ((x:Int)).toNat).length) <|
  if (nth (nth (tab n f) ((x:Int)).toNat) ((y:Int)).toNat)=true then
   ask (0≤(y:Int)∧(y:Int)<(nth (tab n f) ((x:Int)).toNat).length) <|
   ask (InI ((y:Int)+1)) <|
   k ((tab n f).set ((x:Int)).toNat ((nth (tab n f) ((x:Int)).toNat).set ((y:Int)).toNat true))
  else
   ask (0≤(x:Int)∧(x:Int)<(tab n f).length) <|
   ask (0≤(z:Int)∧(z:Int)<(nth (tab n f) ((x:Int)).toNat).length) <|
   if (nth (nth (tab n f) ((x:Int)).toNat) ((z:Int)).toNat)=true then
   ask (0≤(z:Int)∧(z:Int)<(tab n f).length) <|
   ask (0≤(y:Int)∧(y:Int)<(nth (tab n f) ((z:Int)).toNat).length) <|
   ask (0≤(y:Int)∧(y:Int)<(nth (tab n f) ((x:Int)).toNat).length) <|
   ask (InI ((y:Int)+1)) <|
   k ((tab n f).set ((x:Int)).toNat ((nth (tab n f) ((x:Int)).toNat).set ((y:Int)).toNat (nth (nth (tab n f) ((z:Int)).toNat) ((y:Int)).toNat)))
   else
   ask (0≤(y:Int)∧(y:Int)<(nth (tab n f) ((x:Int)).toNat).length) <|
   ask (InI ((y:Int)+1)) <|
   k ((tab n f).set ((x:Int)).toNat ((nth (tab n f) ((x:Int)).toNat).set ((y:Int)).toNat false)))=k (tab n (Aql f x y (f x y || (f x z&&f z y)))):=by
 have h1:=Bw n f
 have h2:=Gk n f x hx
 have h3:=Gk n f z hz
 simp only [tna0,h1,h2,h3,Afl n f x y hx hy,Afl n f x z hx hz,Afl n f z y hz hy]
 repeat rw [Ae (by first | omega | (unfold InI;omega))]
 cases hxy:f x y
 ·simp only [Bool.false_eq_true,if_false,Bool.false_or]
  cases hxz:f x z
  ·simp only [Bool.false_eq_true,if_false,Bool.false_and]
   repeat rw [Ae (by first | omega | (unfold InI;omega))]
   rw [Yv n f x y false hx hy]
  ·simp only [if_true,Bool.true_and]
   repeat rw [Ae (by first | omega | (unfold InI;omega))]
   rw [Yv n f x y _ hx hy]
 ·simp only [if_true,Bool.true_or]
  repeat rw [Ae (by first | omega | (unfold InI;omega))]
  rw [Yv n f x y true hx hy]
theorem A7s (h10:n≤10) (q:List (List Bool)) (a b:List (List Bool)) (ha:a.length=n) (f:Nat→Nat→Bool) {z x:Nat} (hz:z<n) (hx:x<n) (hb:b.length=n):Aj (Do q (z:Int) a (x:Int) b) (0,tab n f)=some (tab n (wy f z x n)):=by
 refine Az (body:=Do q (z:Int) a (x:Int) b) (fun y=>((y:Int),tab n (wy f z x y))) n _ (fun y hy=> ?_) ?_
 ·unfold Do
  dsimp only
  rw [if_pos (by omega)]
  exact Au6 (n:=n) (f:=wy f z x y) hz hx hy h10 (fun t=>some (Sum.inl ((y:Int)+1,t):(Int×List (List Bool)) ⊕ List (List Bool)))
 ·unfold Do
  dsimp only
  rw [if_neg (by omega)]
theorem A7o (h10:n≤10) (q:List (List Bool)) (a:List (List Bool)) (ha:a.length=n) (f:Nat→Nat→Bool) {z:Nat} (hz:z<n):Aj (Dq q (z:Int) a) (0,tab n f)=some (tab n (wx n f z n)):=by
 refine Az (body:=Dq q (z:Int) a) (fun x=>((x:Int),tab n (wx n f z x))) n _ (fun x hx=> ?_) ?_
 ·unfold Dq
  dsimp only
  rw [if_pos (by omega),A7s h10 q a _ ha (wx n f z x) hz hx (Bw _ _)]
  simp only [obs0]
  rw [Ae (by unfold InI;omega)];rfl
 ·unfold Dq
  dsimp only
  rw [if_neg (by omega)]
theorem A8g (h10:n≤10) (q:List (List Bool)) (hq:q.length=n) (f:Nat→Nat→Bool):Aj (Dp q) (0,tab n f)=some (tab n (wz n f n)):=by
 refine Az (body:=Dp q) (fun z=>((z:Int),tab n (wz n f z))) n _ (fun z hz=> ?_) ?_
 ·unfold Dp
  dsimp only
  rw [if_pos (by omega),A7o h10 q _ (Bw _ _) (wz n f z) hz]
  simp only [obs0]
  rw [Ae (by unfold InI;omega)];rfl
 ·unfold Dp
  dsimp only
  rw [if_neg (by omega)]
theorem A7a (h10:n≤10) (f:Nat→Nat→Bool) {z x:Nat} (hz:z<n) (hx:x<n):Aj (Fe (n:Int) (z:Int) (x:Int)) (0,tab n f)=some (tab n (wy f z x n)):=by
 refine Az (body:=Fe (n:Int) (z:Int) (x:Int)) (fun y=>((y:Int),tab n (wy f z x y))) n _ (fun y hy=> ?_) ?_
 ·unfold Fe
  dsimp only
  rw [if_pos (by omega)]
  exact Au6 (n:=n) (f:=wy f z x y) hz hx hy h10 (fun t=>some (Sum.inl ((y:Int)+1,t):(Int×List (List Bool)) ⊕ List (List Bool)))
 ·unfold Fe
  dsimp only
  rw [if_neg (by omega)]
theorem A6k (h10:n≤10) (f:Nat→Nat→Bool) {z:Nat} (hz:z<n):Aj (E8 (n:Int) (z:Int)) (0,tab n f)=some (tab n (wx n f z n)):=by
 refine Az (body:=E8 (n:Int) (z:Int)) (fun x=>((x:Int),tab n (wx n f z x))) n _ (fun x hx=> ?_) ?_
 ·unfold E8
  dsimp only
  rw [if_pos (by omega),A7a h10 (wx n f z x) hz hx]
  simp only [obs0]
  rw [Ae (by unfold InI;omega)];rfl
 ·unfold E8
  dsimp only
  rw [if_neg (by omega)]
theorem A5z (h10:n≤10) (f:Nat→Nat→Bool):Aj (E9 (n:Int)) (0,tab n f)=some (tab n (wz n f n)):=by
 refine Az (body:=E9 (n:Int)) (fun z=>((z:Int),tab n (wz n f z))) n _ (fun z hz=> ?_) ?_
 ·unfold E9
  dsimp only
  rw [if_pos (by omega),A6k h10 (wz n f z) hz]
  simp only [obs0]
  rw [Ae (by unfold InI;omega)];rfl
 ·unfold E9
  dsimp only
  rw [if_neg (by omega)]
def Abz (n i:Nat):List (List Bool):=(List.range i).map fun x=>(List.range n).map fun b=>decide (x=b)
theorem Auk (n i:Nat):Abz n (i+1)=Abz n i++[(List.range n).map fun b=>decide (i=b)]:=by simp [Abz,List.range_succ]
theorem Aw7 (n i:Nat):(Abz n i).length=i:=by simp [Abz]
theorem Ayq (n:Nat):Abz n n=tab n (dg n):=by
 unfold Abz tab
 refine List.map_congr_left fun x hx=>List.map_congr_left fun b _=> ?_
 have:=List.mem_range.1 hx
 unfold dg
 rw [decide_eq_decide];omega
theorem A7c (n x:Nat):(List.replicate n false).set x true=(List.range n).map fun b=>decide (x=b):=by
 refine Px (by simp) fun i hi=> ?_
 have hi':i<n:=by simpa using hi
 rw [Bm _ _ _ _ (by simpa using hi'),K2 _ (by simpa using hi'),I7 hi',Bh _ hi']
 by_cases h:x=i
 ·rw [if_pos h,dtr0 h]
 ·rw [if_neg h,dfa0 h]
theorem A5j (h10:n≤10):Aj (E0 (n:Int) ps) (0,Ar (List Bool))=some (tab n (dg n)):=by
 rw [←Ayq]
 refine Az (body:=E0 (n:Int) ps) (fun i=>((i:Int),Abz n i)) n _ (fun i hi=> ?_) ?_
 ·unfold E0
  dsimp only
  have hl:=Aw7 n i
  rw [if_pos (by omega),Ae (by rw [Ao];omega),tna0,tna0,Ae (by omega),Ae (by rw [Ao];simp;omega),Ae (by unfold InI;omega),A7c,Auk]
  rfl
 ·unfold E0
  dsimp only
  rw [if_neg (by omega)]
theorem A5w (h10:n≤10) (h60:ps.length≤1000) (hok : ∀i,i<ps.length→Aaz n (nth ps i)):Aj (Ff (n:Int) ps) (0,tab n (dg n))=some (tab n (Acb (dg n) ps ps.length)):=by
 refine Az (body:=Ff (n:Int) ps) (fun i=>((i:Int),tab n (Acb (dg n) ps i))) ps.length _ (fun i hi=> ?_) ?_
 ·obtain ⟨⟨⟨a1,a2⟩,a3,a4⟩,_⟩:=hok i hi
  unfold Ff
  dsimp only
  have h1:=Bw n (Acb (dg n) ps i)
  have h2:=Gk n (Acb (dg n) ps i) (nth ps i).1.toNat (by omega)
  rw [if_pos (by omega),Ae (by omega),tna0,Ae (by omega),Ae (by omega),Ae (by omega),Ae (by unfold InI;omega),Yv n _ _ _ true (by omega) (by omega)]
  rfl
 ·unfold Ff
  dsimp only
  rw [if_neg (by omega)]
theorem Av0 (h10:n≤10) (f:Nat→Nat→Bool):Aj (Fd (n:Int) (tab n f)) (0,⟨Ar (List Int)⟩)=some (G0 n f):=by
 have htl:=Bw n f
 have inner : ∀x,x<n → ∀acc,Aj (E5 (n:Int) (tab n f) (x:Int) acc) (0,Ar Int)=some (Al n fun y=>f y x):=by
  intro x hx acc
  refine Aar (body:=E5 (n:Int) (tab n f) (x:Int) acc) n (fun y=>f y x) (fun y acc2 hy ha=> ?_) (fun acc2=> ?_)
  ·unfold E5
   dsimp only
   have h2:=Gk n f y hy
   rw [if_pos (by omega),Ae (by omega),tna0,Ae (by omega),tna0,Afl n f y x hy hx]
   by_cases hf:f y x=true
   ·rw [if_pos hf,if_pos hf]
    simp (disch:=omega) only [Ae,Cg,Ao,List.length_cons,List.length_nil,Int.natCast_add,Int.natCast_one]
   ·rw [if_neg hf,if_neg hf]
    simp (disch:=omega) only [Ae,Cg,Int.natCast_add,Int.natCast_one]
  ·unfold E5
   dsimp only
   rw [if_neg (by omega)]
 refine Az (body:=Fd (n:Int) (tab n f)) (fun x=>((x:Int),(⟨Z1 n f x⟩:SPoset))) n _ (fun x hx=> ?_) ?_
 ·unfold Fd
  dsimp only
  have hl:=Anh n f x
  rw [if_pos (by omega),inner x hx]
  simp only [obs0]
  rw [Ae (by rw [Ao];simp;omega),Ae (by unfold InI;omega),Ak4]
  rfl
 ·unfold Fd
  dsimp only
  rw [if_neg (by omega)];rfl
theorem A8i (h10:n≤10) (h60:ps.length≤1000) (hok : ∀i,i<ps.length→Aaz n (nth ps i)):Iq (n:Int) ps=some (G0 n (A1d n ps)):=by
 unfold Iq
 rw [A5j h10]
 simp only [obs0]
 rw [A5w h10 h60 hok]
 simp only [obs0]
 rw [A5z h10]
 simp only [obs0]
 rw [Av0 h10]
 rfl
end
end Go.Proofs.Ytpfikenknmlajaa.Ax
namespace Go.Proofs.Ytpfikenknmlajaa.Ax
open Go Classical
section
variable {n:Nat} {f:Nat→Nat→Bool}
end
section
variable {p:SPoset}
end
end Go.Proofs.Ytpfikenknmlajaa.Ax
namespace Go.Proofs.Ytpfikenknmlajaa.Ax
open Go Classical
theorem Au5 {xs:List Int}:R8 xs↔xs.Pairwise (· < ·):=by
 constructor
 ·intro h
  refine List.pairwise_iff_getElem.2 fun i j hi hj hij=> ?_
  have:=Aiv h hij hj
  rwa [Fq hi,Fq hj] at this
 ·intro h i h1 h2
  have:=List.pairwise_iff_getElem.1 h (i-1) i (by omega) h2 (by omega)
  rwa [Fq (by omega),Fq h2]
noncomputable def A88 (n:Nat) (g h:Nat→Nat→Nat) (S:Nat→Bool):Nat→Bool:=fun z=>decide (S z=true ∨ ∃x y,x<n∧y<n∧S x=true∧S y=true∧(z=g x y∨z=h x y))
noncomputable def Ati (n:Nat) (g h:Nat→Nat→Nat) (S:Nat→Bool):Nat→Nat→Bool
 | 0=>S
 | k+1=>A88 n g h (Ati n g h S k)
section
variable {n:Nat} {g h:Nat→Nat→Nat} {S:Nat→Bool}
def A9m (n:Nat) (g h:Nat→Nat→Nat) (S:Nat→Bool) (k:Nat):Prop := ∀z,z<n→Ati n g h S (k+1) z=Ati n g h S k z
noncomputable def closed (n:Nat) (g h:Nat→Nat→Nat) (S:Nat→Bool):Nat→Bool:=Ati n g h S n
theorem Axy {xs:List Int} (hx:Fy xs n) (hr:R8 xs):Al n (fun z=>decide ((z:Int)∈xs))=xs:=by
 refine Adh (K8 _ _) hr fun x=> ?_
 rw [Dv]
 constructor
 ·rintro ⟨i,_,h1,rfl⟩;simpa using h1
 ·intro h1
  have:=hx x h1
  exact ⟨x.toNat,by omega,by simpa [show ((x.toNat:Nat):Int)=x by omega] using h1,by omega⟩
def A9l (n:Nat) (S:Nat→Bool):List Nat:=(List.range n).filter S
end
end Go.Proofs.Ytpfikenknmlajaa.Ax
namespace Go.Proofs.Ytpfikenknmlajaa.Ax
open Go Classical
theorem A8k {n:Nat} {S:Nat→Bool} {z k:Nat} (hz:z<n) (hk:k≤(Al n S).length) (h1 : ∀j,j<k→nth (Al n S) j<(z:Int)) (h2:k<(Al n S).length→(z:Int)<nth (Al n S) k) :
  (Al n S).take k++[(z:Int)]++(Al n S).drop k=Al n fun a=>decide (S a=true∨a=z):=by
 have hr:=K8 n S
 have e:=List.take_append_drop k (Al n S)
 refine Adh (Au5.2 ?_) (K8 _ _) fun x=> ?_
 ·rw [List.append_assoc,List.pairwise_append]
  have hp:=Au5.1 hr
  rw [←e,List.pairwise_append] at hp
  have ht : ∀a∈(Al n S).take k,a<(z:Int):=by
   intro a ha
   obtain ⟨j,hj,rfl⟩:=Hu.1 ha
   have hj':j<k:=by rw [List.length_take] at hj;omega
   have:=h1 j hj'
   rw [Fq hj,List.getElem_take]
   rwa [Fq (by omega)] at this
  have hd : ∀a∈(Al n S).drop k,(z:Int)<a:=by
   intro a ha
   obtain ⟨j,hj,rfl⟩:=Hu.1 ha
   rw [List.length_drop] at hj
   have h3:=h2 (by omega)
   have h4:nth ((Al n S).drop k) j=nth (Al n S) (k+j):=by
    rw [Fq (by rw [List.length_drop];omega),Fq (by omega),List.getElem_drop]
   rw [h4]
   by_cases hj0:j=0
   ·subst hj0;exact h3
   ·have:=Aiv hr (i:=k) (j:=k+j) (by omega) (by omega);omega
  refine ⟨hp.1,?_,?_⟩
  ·rw [List.singleton_append,List.pairwise_cons]
   exact ⟨hd,hp.2.1⟩
  ·intro a ha b hb
   rcases List.mem_append.1 hb with hb | hb
   ·rw [List.mem_singleton.1 hb];exact ht a ha
   ·exact hp.2.2 a ha b hb
 ·have hm:x∈Al n S↔x∈(Al n S).take k∨x∈(Al n S).drop k:=by rw [←List.mem_append,e]
  rw [List.mem_append,List.mem_append,List.mem_singleton]
  have:(x∈Al n S∨x=(z:Int))↔x∈Al n fun a=>decide (S a=true∨a=z):=by
   rw [Dv,Dv]
   constructor
   ·rintro (⟨i,a,b,rfl⟩ | rfl)
    ·exact ⟨i,a,dtr0 (.inl b),rfl⟩
    ·exact ⟨z,hz,dtr0 (.inr rfl),rfl⟩
   ·rintro ⟨i,a,b,rfl⟩
    rcases of_decide_eq_true b with c | c
    ·exact .inl ⟨i,a,c,rfl⟩
    ·exact .inr (by omega)
  rw [←this,hm]
  constructor
  ·rintro ((h | h) | h)
   ·exact .inl (.inl h)
   ·exact .inr h
   ·exact .inl (.inr h)
  ·rintro ((h | h) | h)
   ·exact .inl (.inl h)
   ·exact .inr h
   ·exact .inl (.inr h)
theorem A8d {n:Nat} {S:Nat→Bool} {z k:Nat} (hk:k<(Al n S).length) (h:nth (Al n S) k=(z:Int)):Al n S=Al n fun a=>decide (S a=true∨a=z):=by
 obtain ⟨i,a,b,c⟩:=Dv.1 (Ba hk)
 rw [h] at c
 refine Ace fun j _=> ?_
 by_cases hj:j=z
 ·have:j=i:=by omega
  subst this
  rw [b];exact (dtr0 (.inl rfl)).symm
 ·cases hS:S j<;>simp [hj]
theorem A7d {n:Nat} (hn:n≤1000) (S:Nat→Bool) {z:Nat} (hz:z<n):On (Al n S) (z:Int)=some (Al n fun a=>decide (S a=true∨a=z)):=by
 unfold On
 have hl:=G9 n S
 rw [show ((0:Int))=(((0:Nat)):Int) from rfl]
 have key : ∃k:Nat,k≤(Al n S).length∧(∀j,j<k→nth (Al n S) j<(z:Int))∧(k<(Al n S).length→¬nth (Al n S) k<(z:Int))∧Aj (Fp (Al n S) (z:Int)) (((0:Nat)):Int)=some (k:Int):=by
  rcases L0 (body:=Fp (Al n S) (z:Int)) (fun i=>(i:Int)) (Al n S).length (fun i=>¬nth (Al n S) i<(z:Int)) (fun i=>(i:Int)) ((Al n S).length:Int) (fun i hi hh=>by
    unfold Fp
    rw [if_pos (by omega),Ae (by omega),tna0,if_pos (Classical.not_not.1 hh),Ae (by unfold InI;omega)];rfl) (fun i hi hh=>by
    unfold Fp
    rw [if_pos (by omega),Ae (by omega),tna0,if_neg hh]) (by
    unfold Fp
    rw [if_neg (by omega)]) with ⟨i,hi,hh,hj,e⟩ | ⟨hno,e⟩
  ·exact ⟨i,by omega,fun j h=>Classical.not_not.1 (hj j h),fun _=>hh,e⟩
  ·exact ⟨_,Nat.le_refl _,fun j h=>Classical.not_not.1 (hno j h),fun h=>absurd h (Nat.lt_irrefl _),e⟩
 obtain ⟨k,hk,h1,h2,e⟩:=key
 rw [e]
 simp only [obs0]
 have tail:(¬k<(Al n S).length∨nth (Al n S) k≠(z:Int))→(ask (0≤(((0:Nat)):Int)∧(((0:Nat)):Int)≤(k:Int)∧(k:Int)≤(((Al n S).length:Nat):Int)) <|
   ask ((Ar Int).length+(List.take ((k:Int).toNat-Int.toNat ((((0:Nat)):Int))) (List.drop (Int.toNat ((((0:Nat)):Int))) (Al n S))).length≤LIM) <|
   ask ((Ar Int++List.take ((k:Int).toNat-Int.toNat ((((0:Nat)):Int))) (List.drop (Int.toNat ((((0:Nat)):Int))) (Al n S))).length+([(z:Int)]).length≤LIM) <|
   ask (0≤(k:Int)∧(k:Int)≤((Al n S).length:Int)∧((Al n S).length:Int)≤(((Al n S).length:Nat):Int)) <|
   ask ((Ar Int++List.take ((k:Int).toNat-Int.toNat ((((0:Nat)):Int))) (List.drop (Int.toNat ((((0:Nat)):Int))) (Al n S))++[(z:Int)]).length+(List.take (((Al n S).length:Int).toNat-(k:Int).toNat) (List.drop (k:Int).toNat (Al n S))).length≤LIM) <|
   some (Ar Int++List.take ((k:Int).toNat-Int.toNat ((((0:Nat)):Int))) (List.drop (Int.toNat ((((0:Nat)):Int))) (Al n S))++[(z:Int)]++List.take (((Al n S).length:Int).toNat-(k:Int).toNat) (List.drop (k:Int).toNat (Al n S))))=some (Al n fun a=>decide (S a=true∨a=z)):=by
  intro h3
  simp only [tna0,List.drop_zero,Nat.sub_zero,List.nil_append]
  have ed:List.take ((Al n S).length-k) (List.drop k (Al n S))=List.drop k (Al n S):=List.take_of_length_le (by rw [List.length_drop];omega)
  rw [ed]
  have ht:(List.take k (Al n S)).length≤1000:=by rw [List.length_take];omega
  have hd:(List.drop k (Al n S)).length≤1000:=by rw [List.length_drop];omega
  rw [Ae (by omega),Ae (by rw [Ao];simp only [List.length_nil];omega),Ae (by rw [Ao];simp only [List.length_cons,List.length_nil];omega),Ae (by omega),Ae (by rw [Ao];simp only [List.length_append,List.length_cons,List.length_nil];omega)]
  rw [A8k hz hk h1 fun h=>by have h4:=h2 h;rcases h3 with h3 | h3<;>omega]
 by_cases hkl:k<(Al n S).length
 ·rw [if_pos (by omega),Ae (by omega),tna0]
  by_cases hv:nth (Al n S) k=(z:Int)
  ·rw [if_pos hv]
   simp only [obs0]
   rw [←A8d hkl hv]
  ·rw [if_neg hv]
   exact tail (.inr hv)
 ·rw [if_neg (by omega)]
  exact tail (.inl hkl)
section
variable {p:SPoset}
end
end Go.Proofs.Ytpfikenknmlajaa.Ax
namespace Go.Proofs.Ytpfikenknmlajaa.Ax
open Go Classical
end Go.Proofs.Ytpfikenknmlajaa.Ax
namespace Go.Proofs.Ytpfikenknmlajaa.Ax
open Go Classical
end Go.Proofs.Ytpfikenknmlajaa.Ax
namespace Go.Proofs.Ytpfikenknmlajaa.Ax
open Go Classical
section
variable {p q:SPoset}
end
end Go.Proofs.Ytpfikenknmlajaa.Ax
namespace Go.Proofs.Ytpfikenknmlajaa.Ax
open Go Classical
end Go.Proofs.Ytpfikenknmlajaa.Ax
namespace Go.Proofs.Ytpfikenknmlajaa.Ax
open Go Classical
section
variable {f:List Int} {n m:Nat}
end
def uniq (f:List Int):Prop := ∀i,i<f.length→nth f i∉f.take i
end Go.Proofs.Ytpfikenknmlajaa.Ax
namespace Go.Proofs.Ytpfikenknmlajaa.Ax
open Go Classical
theorem A3v {f:List Int} (hl:f.length≤LIM) {n:Nat} (hn1:n≤100):J6 f n=some (decide ((f.length:Int)=n∧Fy f n∧uniq f)):=by
 unfold J6
 by_cases h1:(f.length:Int)=n
 ·rw [if_neg (by simpa using h1),As7 n f hl (by rw [Ao];omega)]
  simp only [obs0]
  by_cases h2:Fy f n
  ·rw [dtr0 h2,if_pos rfl]
   simp only [obs0]
   have hn:n=f.length:=by omega
   subst hn
   rw [Ae (by rw [Ao];omega),tna0]
   have this:=Hc (body:=F8 f f.length) (fun i=>((i:Int),Ajb f.length fun z=>decide ((z:Int)∈f.take i))) f.length (fun i=>nth f i∈f.take i) () () (fun i hi hb=>by
    have hv:=h2 _ (Ba hi)
    have hc:nth f i=(((nth f i).toNat:Nat):Int):=by omega
    have hlen:=Am6 f.length fun z=>decide ((z:Int)∈f.take i)
    unfold F8
    dsimp only
    rw [if_pos (by omega),Ae (by omega),tna0,Ae (by omega),Agr (by omega),if_neg (by rw [←hc];simpa using hb),Ae (by omega),Ae (by omega),Ae (by unfold InI;omega),A2q (by omega)]
    refine congrArg (fun x=>some (Sum.inl (_,x))) (Anu fun z _=> ?_)
    rw [Ya hi]
    by_cases hz:z=(nth f i).toNat
    ·rw [if_pos hz]
     refine (dtr0 ?_).symm
     rw [List.mem_append,List.mem_singleton];right;omega
    ·rw [if_neg hz,decide_eq_decide,List.mem_append,List.mem_singleton]
     exact ⟨.inl,fun h=>h.resolve_right (by omega)⟩) (fun i hi hb=>by
    have hv:=h2 _ (Ba hi)
    have hc:nth f i=(((nth f i).toNat:Nat):Int):=by omega
    have hlen:=Am6 f.length fun z=>decide ((z:Int)∈f.take i)
    unfold F8
    dsimp only
    rw [if_pos (by omega),Ae (by omega),tna0,Ae (by omega),Agr (by omega),if_pos (by rw [←hc];simpa using hb)]) (by
    unfold F8
    dsimp only
    rw [if_neg (by omega)]) 0 (by omega)
   have e0:(Ajb f.length fun z=>decide ((z:Int)∈f.take 0))=List.replicate f.length false:=by
    rw [Ay2];exact Anu fun z _=>by simp
   simp only [e0] at this
   refine (Ly this false true).trans (congrArg some (Ww ?_))
   constructor
   ·intro hno
    exact ⟨rfl,h2,fun i hi hm=>hno ⟨i,by omega,hi,hm⟩⟩
   ·rintro ⟨_,_,hu⟩ ⟨i,_,hi,hm⟩
    exact hu i hi hm
  ·rw [dfa0 h2,if_neg (by simp),dfa0 (fun h=>h2 h.2.1)];rfl
 ·rw [if_pos (by simpa using h1),dfa0 (fun h=>h1 h.1)];rfl
structure Perm (f:List Int) (n:Nat):Prop where
 len:f.length=n
 fin:Fy f n
 un:uniq f
theorem Perm.count {f:List Int} {n:Nat} (h:Perm f n) : ∀i,i≤n→(Al n fun z=>decide ((z:Int)∈f.take i)).length=i:=by
 intro i
 induction i with
 | zero=>
   intro _
   rw [List.length_eq_zero_iff]
   exact Tf.2 fun z _=>by simp
 | succ i ih=>
   intro hi
   have hil:i<f.length:=by rw [h.len];exact hi
   have hv:=h.fin _ (Ba hil)
   have hu:=h.un i hil
   have hc:nth f i=(((nth f i).toNat:Nat):Int):=by omega
   have:=Akg (q:=fun z=>decide ((z:Int)∈f.take i)) (q':=fun z=>decide ((z:Int)∈f.take (i+1))) (x:=(nth f i).toNat) (dfa0 (by rw [←hc];exact hu)) (fun z=>by
    rw [Ya hil,Bool.eq_iff_iff]
    simp only [decide_eq_true_eq,List.mem_append,List.mem_singleton,Bool.or_eq_true]
    constructor
    ·rintro (h1 | h1)
     ·exact .inl h1
     ·exact .inr (by omega)
    ·rintro (h1 | h1)
     ·exact .inl h1
     ·exact .inr (by omega)) n
   rw [this,ih (by omega),if_pos (by omega)]
section
variable {f:List Int} {n:Nat}
end
end Go.Proofs.Ytpfikenknmlajaa.Ax
namespace Go.Proofs.Ytpfikenknmlajaa.Ax
open Go
def Cur (k:Nat) (c:Sl1Cur):Prop:=(∀x∈c.code,0≤x∧x≤255)∧c.code.length≤65536∧0≤c.at_∧c.at_≤k
theorem Cur.mono {k l:Nat} {c:Sl1Cur} (h:Cur k c) (hl:k≤l):Cur l c:=⟨h.1,h.2.1,h.2.2.1,by have:=h.2.2.2;omega⟩
theorem A3j {n:Int} (h0:0≤n) (h1:n≤255):IntKind.u64.wrap n=n:=by
 simp [IntKind.wrap,IntKind.bits,IntKind.signed]
 omega
theorem Arq {c:Sl1Cur} {k:Nat} (h:Cur k c) (hk:k≤1000000000) : ∃r d,Gl c=some (r,d)∧Cur (k+1) d∧0≤r∧r≤255:=by
 obtain ⟨h1,h2,h3,h4⟩:=h
 unfold Gl
 have fin : ∀q:Int,0≤q→q≤255 → ∃r d,(ask (InI (c.at_+1)) <|
   if c.at_+1≤(c.code.length:Int) then
    some (q,({ code:=c.code,at_:=c.at_+1,seed:=IntKind.u64.wrap (IntKind.u64.wrap (IntKind.u64.wrap (c.seed*6364136223846793005)+IntKind.u64.wrap q)+550289) }:Sl1Cur))
   else some (IntKind.i64.wrap (IntKind.u64.wrap (((BitVec.ofInt IntKind.u64.bits ((IntKind.u64.wrap (IntKind.u64.wrap (IntKind.u64.wrap (c.seed*6364136223846793005)+IntKind.u64.wrap q)+550289)).fdiv (2^min (Int.toNat 40) IntKind.u64.bits)) &&& BitVec.ofInt IntKind.u64.bits 255).toNat:Nat):Int)),
    ({ code:=c.code,at_:=c.at_+1,seed:=IntKind.u64.wrap (IntKind.u64.wrap (IntKind.u64.wrap (c.seed*6364136223846793005)+IntKind.u64.wrap q)+550289) }:Sl1Cur)))=some (r,d)∧Cur (k+1) d∧0≤r∧r≤255:=by
  intro q hq0 hq1
  rw [Ae (by unfold InI;omega)]
  split
  ·exact ⟨_,_,rfl,⟨h1,h2,by show 0≤c.at_+1;omega,by show c.at_+1≤((k+1:Nat):Int);omega⟩,hq0,hq1⟩
  ·refine ⟨_,_,rfl,⟨h1,h2,by show 0≤c.at_+1;omega,by show c.at_+1≤((k+1:Nat):Int);omega⟩,?_⟩
   generalize BitVec.ofInt IntKind.u64.bits ((IntKind.u64.wrap (IntKind.u64.wrap (IntKind.u64.wrap (c.seed*6364136223846793005)+IntKind.u64.wrap q)+550289)).fdiv (2^min (Int.toNat 40) IntKind.u64.bits))=b
   have hb:(b &&& BitVec.ofInt IntKind.u64.bits 255).toNat≤255:=by
    rw [BitVec.toNat_and]
    have:(BitVec.ofInt IntKind.u64.bits 255).toNat=255:=by decide
    rw [this]
    exact Nat.and_le_right
   generalize (b &&& BitVec.ofInt IntKind.u64.bits 255).toNat=z at hb
   rw [A3j (by omega) (by omega),S5 (by omega) (by omega)]
   omega
 by_cases hc:c.at_<(c.code.length:Int)
 ·rw [if_pos hc,Ae ⟨h3,hc⟩]
  have hm:=h1 _ (Ba (xs:=c.code) (i:=c.at_.toNat) (by omega))
  rw [S5 (by omega) (by omega)]
  simp only [obs0]
  exact fin _ hm.1 hm.2
 ·rw [if_neg hc]
  simp only [obs0]
  exact fin 0 (by omega) (by omega)
theorem Lw {c:Sl1Cur} {k:Nat} (h:Cur k c) (hk:k≤900000000) (n:Int) : ∃r d,Bp c n=some (r,d)∧Cur (k+2) d∧0≤r∧(r<n∨(n≤1∧r=0)):=by
 unfold Bp
 by_cases h1:n≤1
 ·rw [if_pos h1];exact ⟨0,c,rfl,h.mono (by omega),by omega,.inr ⟨h1,rfl⟩⟩
 ·rw [if_neg h1]
  obtain ⟨r,d,e,hd,a1,a2⟩:=Arq h (by omega)
  simp only [e,obs0]
  by_cases h2:n>200
  ·rw [if_pos h2,Ae (by unfold InI;omega)]
   obtain ⟨r2,d2,e2,hd2,b1,b2⟩:=Arq hd (by omega)
   simp only [e2,obs0]
   rw [Ae (by unfold InI;omega),Ae (by omega)]
   refine ⟨_,_,rfl,hd2,Int.tmod_nonneg _ (by omega),.inl ?_⟩
   exact Int.tmod_lt_of_pos _ (by omega)
  ·rw [if_neg h2,Ae (by omega)]
   refine ⟨_,_,rfl,hd.mono (by omega),Int.tmod_nonneg _ (by omega),.inl ?_⟩
   exact Int.tmod_lt_of_pos _ (by omega)
theorem Amo {c:Sl1Cur} {k:Nat} (h:Cur k c) (hk:k≤900000000) (n:Int) : ∃b d,Dw c n=some (b,d)∧Cur (k+2) d:=by
 unfold Dw
 obtain ⟨r,d,e,hd,_,_⟩:=Lw h hk n
 simp only [e,obs0]
 exact ⟨_,_,rfl,hd⟩
theorem Aox {c:Sl1Cur} {k:Nat} (h:Cur k c) (hk:k≤900000000) (l:List Int) (h0:0<l.length) : ∃r d,F5 c l=some (r,d)∧Cur (k+2) d∧r∈l:=by
 unfold F5
 obtain ⟨r,d,e,hd,a1,a2⟩:=Lw h hk (l.length:Int)
 simp only [e,obs0]
 rw [Ae (by omega)]
 exact ⟨_,_,rfl,hd,Ba (by omega)⟩
theorem Axx {c:Sl1Cur} {k:Nat} (h:Cur k c) (hk:k≤800000000) (n:Nat) (hn:n≤10) : ∃l d,Fi c (n:Int)=some (l,d)∧Cur (k+40) d∧l.length≤11:=by
 unfold Fi
 obtain ⟨⟨l,d⟩,e,hl,hd⟩:=Hq (body:=Es (n:Int)) (fun s => ∃i:Nat,s.1=(i:Int)∧i≤n∧s.2.1.length=i∧Cur (k+2*i) s.2.2) (fun s=>n-s.1.toNat)
  (fun t=>t.1.length=n∧Cur (k+2*n) t.2) (fun s hs=>by
   obtain ⟨x6,x5,x53⟩:=s
   obtain ⟨i,e1,e2,e3,e4⟩:=hs
   simp only at e1 e3 e4
   subst e1
   unfold Es
   dsimp only
   by_cases hi:i<n
   ·left
    rw [if_pos (by omega),Ae (by unfold InI;omega)]
    obtain ⟨r,d,e5,hd,a1,a2⟩:=Lw e4 (by omega) ((x5.length:Int)+1)
    simp only [e5,obs0]
    have hr:r≤(x5.length:Int):=by omega
    have ht:(List.take (r.toNat-Int.toNat 0) (List.drop (Int.toNat 0) x5)).length=r.toNat:=by simp;omega
    have hd2:(List.take ((x5.length:Int).toNat-r.toNat) (List.drop r.toNat x5)).length=x5.length-r.toNat:=by simp
    have hL:=Ao
    have h0:(Ar Int).length=0:=rfl
    rw [Ae ⟨by omega,a1,hr⟩,Ae (by rw [h0,ht];omega),Ae (by rw [List.length_append,h0,ht];simp;omega),Ae ⟨a1,hr,by omega⟩,Ae (by rw [List.length_append,List.length_append,h0,ht,hd2];simp;omega),
     Ae (by unfold InI;omega)]
    refine ⟨_,rfl,⟨i+1,by simp,by omega,?_,hd.mono (by omega)⟩,?_⟩
    ·simp only [List.length_append,h0,ht,hd2];simp;omega
    ·simp only;omega
   ·right
    rw [if_neg (by omega)]
    have:i=n:=by omega
    subst this
    exact ⟨_,rfl,e3,e4⟩) (s:=(0,Ar Int,c)) ⟨0,by simp,by omega,rfl,h⟩
 simp only at hl hd
 rw [e]
 simp only [obs0]
 obtain ⟨r,d2,e2,hd2,a1,a2⟩:=Lw hd (by omega) 24
 simp only [e2,obs0]
 have hL:=Ao
 by_cases h0:r=0
 ·rw [if_pos h0,Ae (by simp;omega)]
  exact ⟨_,_,rfl,hd2.mono (by omega),by simp;omega⟩
 ·rw [if_neg h0]
  by_cases h1:r=1
  ·rw [if_pos h1]
   by_cases h3:(n:Int)>0
   ·rw [if_pos h3]
    obtain ⟨r3,d3,e3,hd3,b1,b2⟩:=Lw hd2 (by omega) (n:Int)
    simp only [e3,obs0]
    obtain ⟨r4,d4,e4,hd4,b3⟩:=Aox hd3 (by omega) [0, -1,(n:Int)] (by simp)
    simp only [e4,obs0]
    rw [Ae (by omega)]
    exact ⟨_,_,rfl,hd4.mono (by omega),by simp;omega⟩
   ·rw [if_neg h3];exact ⟨_,_,rfl,hd2.mono (by omega),by omega⟩
  ·rw [if_neg h1];exact ⟨_,_,rfl,hd2.mono (by omega),by omega⟩
def J4 (n:Nat) (ps:List (Int×Int)):Prop := ∀z∈ps,Aaz n z
theorem Ahk {n:Nat} {ps:List (Int×Int)} (h:J4 n ps) : ∀i,i<ps.length→Aaz n (nth ps i):=fun _ hi=>h _ (Ba hi)
theorem A18 {n:Nat} {f:List Int} (hf:(f.length:Int)=n∧Fy f n∧uniq f) {z:Int×Int} (hz:Aaz n z):Aaz n (nth f z.1.toNat,nth f z.2.toNat):=by
 obtain ⟨h1,h2,h3⟩:=hf
 obtain ⟨⟨⟨a1,a2⟩,b1,b2⟩,hne⟩:=hz
 have m1:=h2 _ (Ba (xs:=f) (i:=z.1.toNat) (by omega))
 have m2:=h2 _ (Ba (xs:=f) (i:=z.2.toNat) (by omega))
 refine ⟨⟨m1,m2⟩,fun e=> ?_⟩
 have key : ∀i j,i<j→j<f.length→nth f i≠nth f j:=by
  intro i j hij hj he
  refine h3 j hj ?_
  rw [←he]
  exact List.mem_take_iff_getElem.2 ⟨i,by omega,by rw [Fq (by omega)]⟩
 have hne2:z.1.toNat≠z.2.toNat:=by omega
 rcases Nat.lt_or_gt_of_ne hne2 with h4 | h4
 ·exact key _ _ h4 (by omega) e
 ·exact key _ _ h4 (by omega) e.symm
theorem Ayr {n:Nat} {f:List Int} (hf:(f.length:Int)=n∧Fy f n∧uniq f) {body:(Int×List (Int×Int))→Option ((Int×List (Int×Int)) ⊕ List (Int×Int))} (L:Nat) (hL:L≤1000000)
  (hb : ∀(i:Nat) (ps:List (Int×Int)),ps.length=L→J4 n ps→body ((i:Int),ps)=if i<L then some (.inl (((i+1:Nat):Int),ps.set i (nth f (nth ps i).1.toNat,nth f (nth ps i).2.toNat))) else some (.inr ps))
  {ps:List (Int×Int)} (h0:ps.length=L) (hp:J4 n ps) : ∃t,Aj body (0,ps)=some t∧t.length=L∧J4 n t:=by
 refine Hq (body:=body) (fun s => ∃i:Nat,s.1=(i:Int)∧i≤L∧s.2.length=L∧J4 n s.2) (fun s=>L-s.1.toNat) (fun t=>t.length=L∧J4 n t) (fun s hs=> ?_) ⟨0,by simp,by omega,h0,hp⟩
 obtain ⟨x,qs⟩:=s
 obtain ⟨i,e1,e2,e3,e4⟩:=hs
 simp only at e1 e3 e4
 subst e1
 rw [hb i qs e3 e4]
 by_cases hi:i<L
 ·left
  rw [if_pos hi]
  refine ⟨_,rfl,⟨i+1,rfl,by omega,by simpa using e3,?_⟩,by simp only;omega⟩
  intro z hz
  rcases List.mem_or_eq_of_mem_set hz with h1 | h1
  ·exact e4 z h1
  ·subst h1;exact A18 hf (e4 _ (Ba (by omega)))
 ·right
  rw [if_neg hi]
  exact ⟨_,rfl,e3,e4⟩
def A1o (p:SPoset):Prop:=p.Below.length≤20 ∧ ∀r∈p.Below,r.length≤20
theorem Ay3 {p:SPoset} (h:A1o p):small p:=⟨by have:=Ao;have:=h.1;omega,fun r hr=>by have:=Ao;have:=h.2 r hr;omega⟩
theorem A4u {n:Nat} (f:Nat→Nat→Bool) (hn:n≤20):A1o (G0 n f):=⟨by rw [Re];exact hn,fun r hr=>Nat.le_trans (An3 r hr) hn⟩
theorem Ajq {f:Nat→Nat→Bool} {x y a b:Nat} {v:Bool} (h:f a b=true) (hv:v=true∨¬(a=x∧b=y)):Aql f x y v a b=true:=by
 unfold Aql
 split
 ·rename_i hh
  rcases hv with h1 | h1
  ·exact h1
  ·exact absurd hh h1
 ·exact h
theorem A00 {f:Nat→Nat→Bool} {ps:List (Int×Int)} {a b:Nat} (h:f a b=true) : ∀k,Acb f ps k a b=true:=by
 intro k
 induction k with
 | zero=>exact h
 | succ k ih=>exact Ajq ih (.inl rfl)
theorem A6h {f:Nat→Nat→Bool} {z x a b:Nat} (h:f a b=true) : ∀y,wy f z x y a b=true:=by
 intro y
 induction y with
 | zero=>exact h
 | succ y ih=>
   simp only [wy]
   by_cases hh:a=x∧b=y
   ·obtain ⟨rfl,rfl⟩:=hh
    exact Ajq ih (.inl (by rw [ih];rfl))
   ·exact Ajq ih (.inr hh)
theorem A5o {n:Nat} {f:Nat→Nat→Bool} {z a b:Nat} (h:f a b=true) : ∀x,wx n f z x a b=true:=by
 intro x
 induction x with
 | zero=>exact h
 | succ x ih=>exact A6h ih n
theorem A6r {n:Nat} {f:Nat→Nat→Bool} {a b:Nat} (h:f a b=true) : ∀z,wz n f z a b=true:=by
 intro z
 induction z with
 | zero=>exact h
 | succ z ih=>exact A5o ih n
theorem A1r {n:Nat} {ps:List (Int×Int)} {x:Nat} (hx:x<n):A1d n ps x x=true:=
 A6r (A00 (by unfold dg;exact dtr0 ⟨rfl,hx⟩) _) _
theorem A0x {n:Nat} {ps:List (Int×Int)} (hn:n≤10) (h60:ps.length≤1000) (hok:J4 n ps) : ∃f,Iq (n:Int) ps=some (G0 n f) ∧ ∀x,x<n→f x x=true:=
 ⟨_,A8i hn h60 (Ahk hok),fun _ hx=>A1r hx⟩
open Classical
theorem Aw2 {c:Sl1Cur} {k:Nat} (h:Cur k c) (hk:k≤700000000) : ∃p d,Hj c=some (p,d)∧Cur (k+2000) d∧A1o p:=by
 have hL:=Ao
 unfold Hj
 obtain ⟨r1,u2,e1,h2,m1⟩:=Aox h (by omega) [0,1,2,3,4,4,5,5,6,7] (by simp)
 rw [e1]
 simp only [obs0]
 obtain ⟨n,hn,rfl⟩ : ∃n:Nat,n≤7∧r1=(n:Int):=by
  refine ⟨r1.toNat,?_,?_⟩ <;> · simp at m1;omega
 clear m1 e1
 obtain ⟨⟨ps,d1⟩,e3,l3,p3,h3⟩:=Hq (body:=Fv (n:Int)) (fun s => ∃i:Nat,s.1=(i:Int)∧i≤n∧s.2.1.length≤10*i∧J4 n s.2.1∧Cur (k+2+20*i) s.2.2) (fun s=>n-s.1.toNat)
  (fun t=>t.1.length≤70∧J4 n t.1∧Cur (k+200) t.2) (fun s hs=>by
   obtain ⟨x5,x4,x147⟩:=s
   obtain ⟨i,e1,e2,e3,e4,e5⟩:=hs
   simp only at e1 e3 e4 e5
   subst e1
   unfold Fv
   dsimp only
   by_cases hi:i<n
   ·left
    rw [if_pos (by omega),Ae (by unfold InI;omega)]
    obtain ⟨⟨qs,d2⟩,f1,f2,f3,f4⟩:=Hq (body:=Fu (n:Int) (i:Int)) (fun s => ∃j:Nat,s.1=(j:Int)∧i<j∧j≤n∧s.2.1.length≤10*i+j∧J4 n s.2.1∧Cur (k+2+20*i+2*j) s.2.2) (fun s=>n-s.1.toNat)
     (fun t=>t.1.length≤10*i+10∧J4 n t.1∧Cur (k+2+20*i+20) t.2) (fun s hs=>by
      obtain ⟨y6,y4,y147⟩:=s
      obtain ⟨j,g1,g2,g3,g4,g5,g6⟩:=hs
      simp only at g1 g4 g5 g6
      subst g1
      unfold Fu
      dsimp only
      by_cases hj:j<n
      ·left
       rw [if_pos (by omega)]
       obtain ⟨b,d,e6,h6⟩:=Amo g6 (by omega) 3
       simp only [e6,obs0]
       by_cases hb:b=true
       ·rw [if_pos hb,Ae (by simp;omega),Ae (by unfold InI;omega)]
        refine ⟨_,rfl,⟨j+1,rfl,by omega,by omega,by simp;omega,?_,h6.mono (by omega)⟩,by simp only;omega⟩
        intro z hz
        rcases List.mem_append.1 hz with h1 | h1
        ·exact g5 z h1
        ·simp at h1
         subst h1
         exact ⟨⟨⟨by omega,by omega⟩,by omega,by omega⟩,by simp only;omega⟩
       ·rw [if_neg hb,Ae (by unfold InI;omega)]
        exact ⟨_,rfl,⟨j+1,rfl,by omega,by omega,by simp only;omega,g5,h6.mono (by omega)⟩,by simp only;omega⟩
      ·right
       rw [if_neg (by omega)]
       exact ⟨_,rfl,by simp only;omega,g5,g6.mono (by omega)⟩) (s:=((i:Int)+1,x4,x147)) ⟨i+1,by simp,by omega,by omega,by simp only;omega,e4,e5.mono (by omega)⟩
    simp only at f2 f3 f4
    rw [f1]
    simp only [obs0]
    rw [Ae (by unfold InI;omega)]
    exact ⟨_,rfl,⟨i+1,rfl,by omega,by simp only;omega,f3,f4.mono (by omega)⟩,by simp only;omega⟩
   ·right
    rw [if_neg (by omega)]
    exact ⟨_,rfl,by simp only;omega,e4,e5.mono (by omega)⟩) (s:=(0,Ar (Int×Int),u2)) ⟨0,by simp,by omega,by simp [Ar],(by intro z hz;cases hz),h2⟩
 simp only at l3 p3 h3
 rw [e3]
 simp only [obs0]
 clear e3
 have names : ∃qs d,(((Fi d1 (n:Int)).bind fun (r14,u15)=>
   (((J6 r14 (n:Int)).bind fun r16=>
     if r16=true then
      (Dw u15 2).bind fun (r18,u19)=>
      some (r18,u19)
     else
      some (false,u15):Option (Bool×Sl1Cur))).bind fun (q20_44,q20_147)=>
   if q20_44=true then
   (Aj (D7 (n:Int) r14 q20_147) (0,ps)).bind fun q29_4=>
   some (q29_4,q20_147)
   else
   some (ps,q20_147):Option ((List (Int×Int))×Sl1Cur)))=some (qs,d)∧qs.length≤70∧J4 n qs∧Cur (k+300) d:=by
  obtain ⟨l,d2,e4,h4,hl4⟩:=Axx h3 (by omega) n (by omega)
  rw [e4]
  simp only [obs0]
  rw [A3v (by omega) (by omega)]
  simp only [obs0]
  by_cases hp:(l.length:Int)=n∧Fy l n∧uniq l
  ·have hpd:(decide ((l.length:Int)=n∧Fy l n∧uniq l))=true:=dtr0 hp
   simp only [hpd,if_true]
   obtain ⟨b,d3,e5,h5⟩:=Amo h4 (by omega) 2
   rw [e5]
   simp only [obs0]
   by_cases hb:b=true
   ·rw [if_pos hb]
    obtain ⟨t,f1,f2,f3⟩:=Ayr hp (body:=D7 (n:Int) l d3) ps.length (by omega) (fun i qs hq hqs=>by
     unfold D7
     dsimp only
     by_cases hi:i<ps.length
     ·rw [if_pos (by omega),if_pos hi]
      obtain ⟨⟨⟨a1,a2⟩,a3,a4⟩,_⟩:=Ahk hqs i (by omega)
      have hln:=hp.1
      repeat rw [Ae (by first | omega | (unfold InI;omega) | (refine ⟨?_,?_⟩<;>(simp only [tna0];omega)))]
      simp
     ·rw [if_neg (by omega),if_neg hi]) rfl p3
    rw [f1]
    exact ⟨_,_,rfl,by omega,f3,h5.mono (by omega)⟩
   ·rw [if_neg hb]
    exact ⟨_,_,rfl,by omega,p3,h5.mono (by omega)⟩
  ·have hpd:(decide ((l.length:Int)=n∧Fy l n∧uniq l))=false:=dfa0 hp
   simp only [hpd,if_false,obs0,Bool.false_eq_true]
   exact ⟨_,_,rfl,by omega,p3,h4.mono (by omega)⟩
 obtain ⟨qs,d5,e5,l5,p5,h5⟩:=names
 rw [e5]
 simp only [obs0]
 clear e5
 obtain ⟨f,e6,hrefl⟩:=A0x (n:=n) (ps:=qs) (by omega) (by omega) p5
 rw [e6]
 simp only [obs0]
 have ht:A1o (G0 n f):=A4u f (by omega)
 have hlen:(G0 n f).Below.length=n:=Re
 have hrow : ∀x,x<n→(nth (G0 n f).Below x).length≤n∧0≤(nth (G0 n f).Below x).length:=fun x hx=>⟨An3 _ (Ba (by omega)),by omega⟩
 have spoil : ∃t,((if (n:Int)=0 then
    some (.inl d5)
    else
    (Dw d5 16).bind fun (r33,u34)=>
    if r33=true then
     some (.inr u34)
    else
     some (.inl u34):Option (Sl1Cur ⊕ Sl1Cur)))=some t∧((∃d,t = .inl d∧Cur (k+400) d)∨(∃d,t = .inr d∧Cur (k+400) d∧n≠0)):=by
  by_cases h0:(n:Int)=0
  ·rw [if_pos h0];exact ⟨_,rfl,.inl ⟨_,rfl,h5.mono (by omega)⟩⟩
  ·rw [if_neg h0]
   obtain ⟨b,d6,e7,h6⟩:=Amo h5 (by omega) 16
   rw [e7]
   simp only [obs0]
   by_cases hb:b=true
   ·rw [if_pos hb];exact ⟨_,rfl,.inr ⟨_,rfl,h6.mono (by omega),by omega⟩⟩
   ·rw [if_neg hb];exact ⟨_,rfl,.inl ⟨_,rfl,h6.mono (by omega)⟩⟩
 obtain ⟨t,e7,⟨d6,rfl,h6⟩ | ⟨d6,rfl,h6,hn0⟩⟩:=spoil
 ·rw [e7]
  exact ⟨_,_,rfl,h6.mono (by omega),ht⟩
 rw [e7]
 simp only [obs0]
 obtain ⟨r37,d7,e8,h7,a1,a2⟩:=Lw h6 (by omega) (n:Int)
 rw [e8]
 simp only [obs0]
 obtain ⟨r39,d8,e9,h8,_,_⟩:=Lw h7 (by omega) 4
 rw [e9]
 simp only [obs0]
 have hx:r37.toNat<n:=by omega
 have hb37:0≤r37∧r37<((G0 n f).Below.length:Int):=by omega
 have setTiny : ∀w:List Int,w.length≤20→A1o ⟨(G0 n f).Below.set r37.toNat w⟩:=by
  intro w hw
  refine ⟨by simpa using ht.1,fun r hr=> ?_⟩
  rcases List.mem_or_eq_of_mem_set hr with h1 | h1
  ·exact ht.2 r h1
  ·subst h1;exact hw
 obtain ⟨hr1,_⟩:=hrow _ hx
 have hself:1≤(nth (G0 n f).Below r37.toNat).length:=by
  have:((r37.toNat:Nat):Int)∈nth (G0 n f).Below r37.toNat:=by
   rw [Adb hx]
   exact Dv.2 ⟨r37.toNat,hx,hrefl _ hx,rfl⟩
  exact List.length_pos_of_mem this
 by_cases c0:r39=0
 ·rw [if_pos c0,Ae hb37]
  rw [Ae (by omega),Ae hb37]
  exact ⟨_,_,rfl,h8.mono (by omega),setTiny _ (by simp;omega)⟩
 rw [if_neg c0]
 by_cases c1:r39=1
 ·rw [if_pos c1,Ae hb37,Ae hb37,Ae hb37,Ae (by simp;omega),Ae hb37]
  exact ⟨_,_,rfl,h8.mono (by omega),setTiny _ (by simp;omega)⟩
 rw [if_neg c1]
 by_cases c2:r39=2
 ·rw [if_pos c2,Ae hb37]
  obtain ⟨r51,d9,e10,h9,b1,b2⟩:=Lw h8 (by omega) (n:Int)
  rw [e10]
  simp only [obs0]
  rw [Adb hx]
  have hz:r51.toNat<n:=by omega
  have hput:=A7d (n:=n) (by omega) (fun y=>f y r37.toNat) hz
  rw [Int.toNat_of_nonneg b1] at hput
  rw [hput]
  simp only [obs0]
  rw [Ae hb37]
  exact ⟨_,_,rfl,h9.mono (by omega),setTiny _ (Nat.le_trans (G9 _ _) (by omega))⟩
 rw [if_neg c2]
 by_cases c3:r39=3
 ·rw [if_pos c3]
  obtain ⟨⟨p9,d9⟩,e10,g1,g2⟩:=Hq (body:=Fw) (fun s=>s.1.Below.length≤11∧(∀r∈s.1.Below,r.length≤20)∧Cur (k+500+2*s.1.Below.length) s.2) (fun s=>20-s.1.Below.length)
   (fun t=>A1o t.1∧Cur (k+2000) t.2) (fun s hs=>by
    obtain ⟨q,dq⟩:=s
    obtain ⟨g1,g2,g3⟩:=hs
    simp only at g1 g2 g3
    unfold Fw
    dsimp only
    obtain ⟨r,d,e11,h11,b1,b2⟩:=Lw g3 (by omega) 2
    rw [e11]
    simp only [obs0]
    rw [Ae (by unfold InI;omega)]
    by_cases hq:(q.Below.length:Int)<10+r
    ·left
     rw [if_pos hq,Ae (by simp;omega)]
     refine ⟨_,rfl,⟨by simp;omega,?_,h11.mono (by simp;omega)⟩,by simp;omega⟩
     intro row hr
     rcases List.mem_append.1 hr with h1 | h1
     ·exact g2 row h1
     ·simp at h1;subst h1;simp
    ·right
     rw [if_neg hq]
     exact ⟨_,rfl,⟨by simp only;omega,g2⟩,h11.mono (by omega)⟩) (s:=(G0 n f,d8)) ⟨by simp only;omega,ht.2,h8.mono (by omega)⟩
  rw [e10]
  exact ⟨_,_,rfl,g2,g1⟩
 rw [if_neg c3]
 exact ⟨_,_,rfl,h8.mono (by omega),ht⟩
end Go.Proofs.Ytpfikenknmlajaa.Ax
namespace Go.Proofs.Ytpfikenknmlajaa.Ax
open Go Classical
section
variable {p:SPoset}
end
end Go.Proofs.Ytpfikenknmlajaa.Ax
namespace Go.Proofs.Ytpfikenknmlajaa.Ax
open Go Classical
end Go.Proofs.Ytpfikenknmlajaa.Ax
namespace Go.Proofs.Ytpfikenknmlajaa.Ax
open Go Classical
section
variable {n:Nat} {f:Nat→Nat→Bool}
end
section
variable {n m:Nat} {f g:Nat→Nat→Bool}
end
end Go.Proofs.Ytpfikenknmlajaa.Ax
namespace Go.Proofs.Ytpfikenknmlajaa.Ax
open Go Classical
section
variable {n m:Nat} {f g:Nat→Nat→Bool}
end
end Go.Proofs.Ytpfikenknmlajaa.Ax
namespace Go.Proofs.Ytpfikenknmlajaa.Ax
open Go Classical
section
variable {p q:SPoset}
end
theorem Ahz {xs:List Int} (h:xs.length≤LIM):Ic xs xs=some true:=by
 have hL:=Ao
 unfold Ic
 rw [if_neg (by simp)]
 have:=Az (body:=Gv xs xs) (fun i=>(i:Int)) xs.length (.inr ()) (fun i hi=>by
  unfold Gv
  rw [if_pos (by omega)]
  repeat rw [Ae (by first | omega | (unfold InI;omega))]
  rw [if_neg (by simp)]
  rfl) (by
  unfold Gv
  rw [if_neg (by omega)])
 have h0:Aj (Gv xs xs) 0=some (.inr ()):=this
 rw [h0];rfl
theorem An7 {xss:List (List Int)} (h:xss.length≤LIM) (h1 : ∀r∈xss,r.length≤LIM):G8 xss xss=some true:=by
 have hL:=Ao
 unfold G8
 rw [if_neg (by simp)]
 have:=Az (body:=Fx xss xss) (fun i=>(i:Int)) xss.length (.inr ()) (fun i hi=>by
  unfold Fx
  rw [if_pos (by omega)]
  repeat rw [Ae (by first | omega | (unfold InI;omega))]
  rw [tna0,Ahz (h1 _ (Ba hi))]
  simp only [obs0,if_true]
  rfl) (by
  unfold Fx
  rw [if_neg (by omega)])
 have h0:Aj (Fx xss xss) 0=some (.inr ()):=this
 rw [h0];rfl
section
variable {n m:Nat} {f g:Nat→Nat→Bool}
end
end Go.Proofs.Ytpfikenknmlajaa.Ax
namespace Go.Proofs.Ytpfikenknmlajaa.Ax
open Go Classical
section
variable {p:SPoset}
theorem Aw3 (hg:good p.Below):G0 p.Below.length (below p.Below)=p:=by
 have key:(G0 p.Below.length (below p.Below)).Below=p.Below:=by
  refine Px Re fun x hx=> ?_
  rw [Re] at hx
  rw [Adb hx]
  obtain ⟨h1,h2⟩:=Yf hg x hx
  have:=Axy h2 h1
  exact this
 cases p
 simpa [G0] using key
theorem Aus {n:Nat} {f g:Nat→Nat→Bool} (h : ∀x y,x<n→y<n→f x y=g x y):G0 n f=G0 n g:=by
 unfold G0
 congr 1
 refine List.map_congr_left fun x hx=> ?_
 have hx':=List.mem_range.1 hx
 exact Ace fun y hy=>h y x hy hx'
end
end Go.Proofs.Ytpfikenknmlajaa.Ax
namespace Go.Proofs.Ytpfikenknmlajaa.Ax
open Go Classical
theorem Agk {α:Type} [DecidableEq α] : ∀ {L M:List α},L.Nodup→(∀r∈L,r∈M)→L.length≤M.length
 | [],_,_,_=>Nat.zero_le _
 | x::L,M,h,hs=>by
   obtain ⟨h1,h2⟩:=List.nodup_cons.1 h
   have hx:=hs x (by simp)
   have:=Agk (L:=L) (M:=M.erase x) h2 fun r hr=>by
    have hne:r≠x:=fun hh=>h1 (hh▸hr)
    exact (List.mem_erase_of_ne hne).2 (hs r (by simp [hr]))
   rw [List.length_erase_of_mem hx] at this
   have:=List.length_pos_of_mem hx
   simp only [List.length_cons];omega
def Bz (n:Nat) (p:Nat→Bool):Nat:=((List.range n).filter p).length
theorem Ac2 (p:Nat→Bool):Bz 0 p=0:=rfl
theorem H5 (n:Nat) (p:Nat→Bool):Bz (n+1) p=Bz n p+if p n=true then 1 else 0:=by
 unfold Bz
 rw [List.range_succ,List.filter_append,List.length_append]
 cases h:p n<;>simp [h]
theorem Ef {n:Nat} {p q:Nat→Bool} (h : ∀i,i<n→p i=q i):Bz n p=Bz n q:=by
 unfold Bz
 congr 1
 exact List.filter_congr fun i hi=>h i (List.mem_range.1 hi)
theorem Ac3 (n:Nat) (p:Nat→Bool):Bz n p≤n:=by
 unfold Bz
 exact Nat.le_trans (List.length_filter_le _ _) (by simp)
theorem Ir {n:Nat} {p q:Nat→Bool} (h : ∀i,i<n→p i=true→q i=true):Bz n p≤Bz n q:=by
 induction n with
 | zero=>simp [Ac2]
 | succ n ih=>
   have:=ih fun i hi=>h i (by omega)
   rw [H5,H5]
   by_cases hp:p n=true
   ·rw [if_pos hp,if_pos (h n (by omega) hp)];omega
   ·rw [if_neg hp];split<;>omega
theorem Gx (n:Nat) (p q:Nat→Bool):Bz n p=Bz n (fun i=>p i&&q i)+Bz n fun i=>p i && !q i:=by
 induction n with
 | zero=>rfl
 | succ n ih=>
   rw [H5,H5,H5,ih]
   cases hp:p n<;>cases hq:q n<;>simp<;>omega
theorem A3d (n:Nat):Bz n (fun _=>true)=n:=by
 induction n with
 | zero=>rfl
 | succ n ih=>rw [H5,ih];rfl
theorem Ti (n:Nat):Bz n (fun _=>false)=0:=by
 induction n with
 | zero=>rfl
 | succ n ih=>rw [H5,ih];rfl
theorem Aiq (n:Nat) (p:Nat→Bool):Bz n p+Bz n (fun i => !p i)=n:=by
 have:=Gx n (fun _=>true) p
 rw [A3d] at this
 simp only [Bool.true_and] at this
 have e:Bz n p=Bz n fun i=>p i:=rfl
 omega
theorem X7 {n m:Nat} {p q:Nat→Bool} (f:Nat→Nat) (h : ∀i,i<n→p i=true→f i<m∧q (f i)=true) (hi : ∀i j,i<n→j<n→p i=true→p j=true→f i=f j→i=j):Bz n p≤Bz m q:=by
 have h1:(((List.range n).filter p).map f).Nodup:=by
  rw [List.Nodup,List.pairwise_map]
  refine List.Pairwise.imp_of_mem ?_ (List.nodup_range.filter p)
  intro a b ha hb hne e
  have ha:=List.mem_filter.1 ha
  have hb:=List.mem_filter.1 hb
  exact hne (hi a b (List.mem_range.1 ha.1) (List.mem_range.1 hb.1) ha.2 hb.2 e)
 have:=Agk h1 (M:=(List.range m).filter q) fun r hr=>by
  obtain ⟨i,hi,rfl⟩:=List.mem_map.1 hr
  have hi:=List.mem_filter.1 hi
  obtain ⟨a,b⟩:=h i (List.mem_range.1 hi.1) hi.2
  exact List.mem_filter.2 ⟨List.mem_range.2 a,b⟩
 rw [List.length_map] at this
 exact this
theorem Kr {n k:Nat} {p q:Nat→Bool} (hk:k<n) (hp:p k=false) (hq:q k=true) (h : ∀i,i<n→i≠k→p i=q i):Bz n q=Bz n p+1:=by
 induction n with
 | zero=>omega
 | succ n ih=>
   rw [H5,H5]
   by_cases e:k=n
   ·subst e
    rw [Ef (p:=p) (q:=q) fun i hi=>h i (by omega) (by omega)]
    simp [hp,hq]
   ·rw [ih (by omega) fun i hi hne=>h i (by omega) hne,h n (by omega) (fun hh=>e hh.symm)];omega
theorem N3 {n k:Nat} {p:Nat→Bool} (hk:k<n) (hp:p k=true):0<Bz n p:=by
 unfold Bz
 exact List.length_pos_of_mem (List.mem_filter.2 ⟨List.mem_range.2 hk,hp⟩)
theorem Apb {n:Nat} {p:Nat→Bool} (h:0<Bz n p) : ∃k,k<n∧p k=true:=by
 unfold Bz at h
 obtain ⟨k,hk⟩:=List.exists_mem_of_length_pos h
 have:=List.mem_filter.1 hk
 exact ⟨k,List.mem_range.1 this.1,this.2⟩
theorem A3r {n i j:Nat} {p:Nat→Bool} (hi:i<n) (hj:j<n) (hne:i≠j) (pi:p i=true) (pj:p j=true):2≤Bz n p:=by
 have h1:=Kr (n:=n) (k:=i) (p:=fun k=>p k && !decide (k=i)) (q:=p) hi (by simp) pi fun k _ hk=>by simp [hk]
 have h2:=N3 (n:=n) (k:=j) (p:=fun k=>p k && !decide (k=i)) hj (by simp [pj];omega)
 omega
structure MtOk (n:Nat) (E:Nat→Nat→Bool) (m:List Int):Prop where
 len:m.length=n
 own : ∀k,k<n→nth m k = -1 ∨ ∃j:Nat,j<n∧nth m k=(j:Int)∧E j k=true
def Afi (n:Nat) (m:List Int) (j:Nat):Nat:=Bz n fun k=>decide (nth m k=(j:Int))
inductive TryL (n:Nat) (E:Nat→Nat→Bool):Nat→Nat→List Bool→List Int→Bool→List Bool→List Int→Prop
 | done (i:Nat) (s:List Bool) (m:List Int):TryL n E n i s m false s m
 | skip {k i:Nat} {s s':List Bool} {m m':List Int} {o:Bool} (hk:k<n) (h:nth s k=true∨E i k=false) (t:TryL n E (k+1) i s m o s' m'):TryL n E k i s m o s' m'
 | free {k i:Nat} {s:List Bool} {m:List Int} (hk:k<n) (hs:nth s k=false) (he:E i k=true) (hm:nth m k = -1):TryL n E k i s m true (s.set k true) (m.set k (i:Int))
 | push {k i j:Nat} {s s':List Bool} {m m':List Int} (hk:k<n) (hs:nth s k=false) (he:E i k=true) (hm:nth m k=(j:Int)) (t:TryL n E 0 j (s.set k true) m true s' m'):TryL n E k i s m true s' (m'.set k (i:Int))
 | back {k i j:Nat} {s s1 s':List Bool} {m m1 m':List Int} {o:Bool} (hk:k<n) (hs:nth s k=false) (he:E i k=true) (hm:nth m k=(j:Int)) (t:TryL n E 0 j (s.set k true) m false s1 m1) (t2:TryL n E (k+1) i s1 m1 o s' m'):TryL n E k i s m o s' m'
section
variable {n:Nat} {E:Nat→Nat→Bool}
theorem MtOk.set {m:List Int} (h:MtOk n E m) {k i:Nat} (_hk:k<n) (hi:i<n) (he:E i k=true):MtOk n E (m.set k (i:Int)):=by
 refine ⟨by rw [List.length_set];exact h.len,fun k' hk'=> ?_⟩
 rw [Bm _ _ _ _ (by rw [h.len];exact hk')]
 by_cases e:k=k'
 ·rw [if_pos e,←e];exact .inr ⟨i,hi,rfl,he⟩
 ·rw [if_neg e];exact h.own k' hk'
theorem Te {s:List Bool} {k k':Nat} (hk:k'<s.length):nth (s.set k true) k'=true↔k=k'∨nth s k'=true:=by
 rw [Bm _ _ _ _ hk]
 by_cases e:k=k'<;>simp [e]
theorem TryL.out {k i:Nat} {s s':List Bool} {m m':List Int} {o:Bool} (t:TryL n E k i s m o s' m'):s.length=n→MtOk n E m→i<n →
  s'.length=n∧(∀k,k<n→nth s k=true→nth s' k=true)∧MtOk n E m'∧(∀k,k<n→nth s k=true→nth m' k=nth m k)∧(o=true → ∀j,Afi n m' j=Afi n m j+if j=i then 1 else 0)∧(o=false→m'=m):=by
 induction t with
 | done i s m=>exact fun hs hm _=>⟨hs,fun _ _ h=>h,hm,fun _ _ _=>rfl,fun h=>absurd h Bool.false_ne_true,fun _=>rfl⟩
 | skip hk h t ih=>exact ih
 | @free k i s m hk hs he hf=>
   intro hsl hm hi
   refine ⟨by rw [List.length_set];exact hsl,fun k' hk' h=>(Te (by omega)).2 (.inr h),hm.set hk hi he,fun k' hk' h=> ?_,fun _ j=> ?_,fun h=>absurd h (by simp)⟩
   ·rw [Bm _ _ _ _ (by rw [hm.len];exact hk'),if_neg (fun e=>by rw [e,h] at hs;exact absurd hs (by simp))]
   ·unfold Afi
    by_cases e:j=i
    ·subst e
     rw [if_pos rfl]
     refine Kr hk (by rw [hf];exact dfa0 (by omega)) (by rw [Bm _ _ _ _ (by rw [hm.len];exact hk),if_pos rfl];exact dtr0 rfl) fun k' hk' hne=> ?_
     rw [Bm _ _ _ _ (by rw [hm.len];exact hk'),if_neg (Ne.symm hne)]
    ·rw [if_neg e,Nat.add_zero]
     refine Ef fun k' hk'=> ?_
     rw [Bm _ _ _ _ (by rw [hm.len];exact hk')]
     by_cases e':k=k'
     ·subst e'
      rw [if_pos rfl,hf,dfa0 (by omega),dfa0 (by omega)]
     ·rw [if_neg e']
 | @push k i j s s' m m' hk hs he hf t ih=>
   intro hsl hm hi
   have hj:j<n:=by
    rcases hm.own k hk with h | ⟨j',h1,h2,_⟩<;>omega
   obtain ⟨a1,a2,a3,a4,a5,_⟩:=ih (by rw [List.length_set];exact hsl) hm hj
   have hkj:nth m' k=(j:Int):=by rw [a4 k hk ((Te (by omega)).2 (.inl rfl)),hf]
   refine ⟨a1,fun k' hk' h=>a2 k' hk' ((Te (by omega)).2 (.inr h)),a3.set hk hi he,fun k' hk' h=> ?_,fun _ l=> ?_,fun h=>absurd h (by simp)⟩
   ·rw [Bm _ _ _ _ (by rw [a3.len];exact hk'),if_neg (fun e=>by rw [e,h] at hs;exact absurd hs (by simp))]
    exact a4 k' hk' ((Te (by omega)).2 (.inr h))
   ·have h5:=a5 rfl l
    have hset : ∀k',k'<n→nth (m'.set k (i:Int)) k'=if k=k' then (i:Int) else nth m' k':=fun k' hk'=>Bm _ _ _ _ (by rw [a3.len];exact hk')
    have key:Afi n (m'.set k (i:Int)) l+(if l=j then 1 else 0)=Afi n m' l+if l=i then 1 else 0:=by
     unfold Afi
     by_cases e1:l=i
     ·by_cases e2:l=j
      ·rw [if_pos e1,if_pos e2]
       congr 1
       refine Ef fun k' hk'=> ?_
       rw [hset k' hk']
       by_cases e':k=k'
       ·subst e';rw [if_pos rfl,hkj,←e1,←e2]
       ·rw [if_neg e']
      ·rw [if_pos e1,if_neg e2,Nat.add_zero]
       refine Kr hk (by rw [hkj];exact dfa0 (by omega)) (by rw [hset k hk,if_pos rfl];exact dtr0 (by omega)) fun k' hk' hne=> ?_
       rw [hset k' hk',if_neg (Ne.symm hne)]
     ·by_cases e2:l=j
      ·rw [if_neg e1,if_pos e2,Nat.add_zero]
       refine (Kr hk (by rw [hset k hk,if_pos rfl];exact dfa0 (by omega)) (by rw [hkj];exact dtr0 (by omega)) fun k' hk' hne=> ?_).symm
       rw [hset k' hk',if_neg (Ne.symm hne)]
      ·rw [if_neg e1,if_neg e2]
       congr 1
       refine Ef fun k' hk'=> ?_
       rw [hset k' hk']
       by_cases e':k=k'
       ·subst e';rw [if_pos rfl,hkj,dfa0 (by omega),dfa0 (by omega)]
       ·rw [if_neg e']
    omega
 | @back k i j s s1 s' m m1 m' o hk hs he hf t t2 ih ih2=>
   intro hsl hm hi
   have hj:j<n:=by
    rcases hm.own k hk with h | ⟨j',h1,h2,_⟩<;>omega
   obtain ⟨a1,a2,a3,a4,_,a6⟩:=ih (by rw [List.length_set];exact hsl) hm hj
   have e:=a6 rfl
   subst e
   obtain ⟨b1,b2,b3,b4,b5,b6⟩:=ih2 a1 hm hi
   have mo : ∀k',k'<n→nth s k'=true→nth s1 k'=true:=fun k' hk' h=>a2 k' hk' ((Te (by omega)).2 (.inr h))
   exact ⟨b1,fun k' hk' h=>b2 k' hk' (mo k' hk' h),b3,fun k' hk' h=>b4 k' hk' (mo k' hk' h),b5,b6⟩
theorem TryL.closed {k i:Nat} {s s':List Bool} {m m':List Int} {o:Bool} (t:TryL n E k i s m o s' m'):s.length=n→MtOk n E m→i<n→o=false →
  (∀k',k≤k'→k'<n→E i k'=true→nth s' k'=true) ∧ ∀k',k'<n→nth s' k'=true→nth s k'=false → ∃j:Nat,nth m k'=(j:Int) ∧ ∀l,l<n→E j l=true→nth s' l=true:=by
 induction t with
 | done i s m=>exact fun _ _ _ _=>⟨fun k' h1 h2=>by omega,fun k' _ h1 h2=>by rw [h1] at h2;cases h2⟩
 | @skip k i s s' m m' o hk h t ih=>
   intro hsl hm hi ho
   obtain ⟨a1,a2⟩:=ih hsl hm hi ho
   refine ⟨fun k' h1 h2 h3=> ?_,a2⟩
   by_cases e:k'=k
   ·subst e
    rcases h with h | h
    ·exact (t.out hsl hm hi).2.1 _ h2 h
    ·rw [h] at h3;cases h3
   ·exact a1 k' (by omega) h2 h3
 | free=>exact fun _ _ _ h=>absurd h (by simp)
 | push=>exact fun _ _ _ h=>absurd h (by simp)
 | @back k i j s s1 s' m m1 m' o hk hs he hf t t2 ih ih2=>
   intro hsl hm hi ho
   have hj:j<n:=by
    rcases hm.own k hk with h | ⟨j',h1,h2,_⟩<;>omega
   have hsl':(s.set k true).length=n:=by rw [List.length_set];exact hsl
   obtain ⟨q1,q2,_,_,_,q6⟩:=t.out hsl' hm hj
   have e:=q6 rfl
   subst e
   obtain ⟨r1,r2,_⟩:=t2.out q1 hm hi
   obtain ⟨a1,a2⟩:=ih hsl' hm hj rfl
   obtain ⟨b1,b2⟩:=ih2 q1 hm hi ho
   refine ⟨fun k' h1 h2 h3=> ?_,fun k' hk' h1 h2=> ?_⟩
   ·by_cases e:k'=k
    ·subst e
     exact r2 _ h2 (q2 _ h2 ((Te (by omega)).2 (.inl rfl)))
    ·exact b1 k' (by omega) h2 h3
   ·cases h3:nth s1 k' with
    | false=>exact b2 k' hk' h1 h3
    | true=>
      by_cases e:k=k'
      ·subst e
       exact ⟨j,hf,fun l hl h=>r2 l hl (a1 l (Nat.zero_le _) hl h)⟩
      ·obtain ⟨j',j1,j2⟩:=a2 k' hk' h3 (by rw [Bm _ _ _ _ (by omega),if_neg e];exact h2)
       exact ⟨j',j1,fun l hl h=>r2 l hl (j2 l hl h)⟩
def A9h (n:Nat) (E:Nat→Nat→Bool) (m:List Int) (D:Nat→Bool):Prop := ∀k,k<n→D k=true → ∃j:Nat,nth m k=(j:Int) ∧ ∀l,l<n→E j l=true→D l=true
theorem TryL.dead {k i:Nat} {s s':List Bool} {m m':List Int} {o:Bool} (t:TryL n E k i s m o s' m') (D:Nat→Bool):s.length=n→MtOk n E m→i<n→A9h n E m D →
  (∀k',k'<n→D k'=true→nth m' k'=nth m k')∧(o=true → ∃k',k'<n∧E i k'=true∧D k'=false):=by
 induction t with
 | done i s m=>exact fun _ _ _ _=>⟨fun _ _ _=>rfl,fun h=>absurd h (by simp)⟩
 | skip hk h t ih=>exact ih
 | @free k i s m hk hs he hf=>
   intro hsl hm hi hd
   have hD:D k=false:=by
    cases h:D k with
    | false=>rfl
    | true=>obtain ⟨j,h1,_⟩:=hd k hk h;omega
   refine ⟨fun k' hk' h=> ?_,fun _=>⟨k,hk,he,hD⟩⟩
   rw [Bm _ _ _ _ (by rw [hm.len];exact hk'),if_neg (fun e=>by rw [e,h] at hD;cases hD)]
 | @push k i j s s' m m' hk hs he hf t ih=>
   intro hsl hm hi hd
   have hj:j<n:=by
    rcases hm.own k hk with h | ⟨j',h1,h2,_⟩<;>omega
   obtain ⟨a1,a2⟩:=ih (by rw [List.length_set];exact hsl) hm hj hd
   have ml:=(t.out (by rw [List.length_set];exact hsl) hm hj).2.2.1.len
   obtain ⟨l,l1,l2,l3⟩:=a2 rfl
   have hD:D k=false:=by
    cases h:D k with
    | false=>rfl
    | true=>
      obtain ⟨j',h1,h2⟩:=hd k hk h
      have:j'=j:=by omega
      subst this
      rw [h2 l l1 l2] at l3;cases l3
   refine ⟨fun k' hk' h=> ?_,fun _=>⟨k,hk,he,hD⟩⟩
   rw [Bm _ _ _ _ (by rw [ml];exact hk'),if_neg (fun e=>by rw [e,h] at hD;cases hD)]
   exact a1 k' hk' h
 | @back k i j s s1 s' m m1 m' o hk hs he hf t t2 ih ih2=>
   intro hsl hm hi hd
   have hj:j<n:=by
    rcases hm.own k hk with h | ⟨j',h1,h2,_⟩<;>omega
   have q:=t.out (by rw [List.length_set];exact hsl) hm hj
   have e:=q.2.2.2.2.2 rfl
   subst e
   exact ih2 q.1 hm hi hd
structure MtOne (n:Nat) (E:Nat→Nat→Bool) (m:List Int):Prop extends MtOk n E m where
 one : ∀j,Afi n m j≤1
def Gq (n:Nat) (m:List Int):Nat:=Bz n fun k=>decide (nth m k ≠ -1)
theorem MtOne.inj {m:List Int} (h:MtOne n E m) {k l:Nat} (hk:k<n) (hl:l<n) {j:Nat} (ek:nth m k=(j:Int)) (el:nth m l=(j:Int)):k=l:=by
 refine Classical.byContradiction fun hne=> ?_
 have:=A3r (p:=fun k=>decide (nth m k=(j:Int))) hk hl hne (dtr0 ek) (dtr0 el)
 have:=h.one j
 unfold Afi at this
 omega
structure MtInv (n:Nat) (E:Nat→Nat→Bool) (i0:Nat) (m:List Int) (S D:Nat→Bool):Prop where
 ok:MtOk n E m
 cnt : ∀j,Afi n m j=if j<i0∧S j=true then 1 else 0
 dead:A9h n E m D
 no : ∀j,j<i0→S j=false → ∀k,k<n→E j k=true→D k=true
theorem MtInv.start (n:Nat) (E:Nat→Nat→Bool):MtInv n E 0 (List.replicate n (-1)) (fun _=>false) fun _=>false where
 ok:=⟨by simp,fun k hk=> .inl (Bh _ hk)⟩
 cnt j:=by
  rw [if_neg (by omega)]
  unfold Afi
  rw [Ef (q:=fun _=>false) fun k hk=>by rw [Bh _ hk];exact dfa0 (by omega)]
  simp [Bz]
 dead k _ h:=by cases h
 no j h:=by omega
theorem MtInv.step {i:Nat} {m m':List Int} {S D:Nat→Bool} {s':List Bool} {o:Bool} (h:MtInv n E i m S D) (hi:i<n) (t:TryL n E 0 i (List.replicate n false) m o s' m') :
  ∃D',MtInv n E (i+1) m' (fun j=>if j=i then o else S j) D':=by
 have hsl:(List.replicate n false).length=n:=by simp
 obtain ⟨a1,a2,a3,a4,a5,a6⟩:=t.out hsl h.ok hi
 cases o with
 | true=>
   obtain ⟨d1,d2⟩:=t.dead D hsl h.ok hi h.dead
   refine ⟨D,a3,fun j=> ?_,fun k hk hD=> ?_,fun j hj hS k hk he=> ?_⟩
   ·rw [a5 rfl j,h.cnt j]
    by_cases e:j=i
    ·subst e
     rw [if_neg (by omega),if_pos rfl,if_pos rfl,if_pos ⟨by omega,rfl⟩]
    ·rw [if_neg e,if_neg e]
     by_cases hc:j<i∧S j=true
     ·rw [if_pos hc,if_pos ⟨by omega,hc.2⟩]
     ·rw [if_neg hc,if_neg (fun hh=>hc ⟨by omega,hh.2⟩)]
   ·obtain ⟨j,j1,j2⟩:=h.dead k hk hD
    exact ⟨j,by rw [d1 k hk hD];exact j1,j2⟩
   ·by_cases e:j=i
    ·rw [if_pos e] at hS;cases hS
    ·rw [if_neg e] at hS
     exact h.no j (by omega) hS k hk he
 | false=>
   have e:=a6 rfl
   subst e
   obtain ⟨c1,c2⟩:=t.closed hsl h.ok hi rfl
   refine ⟨fun k=>D k || nth s' k,h.ok,fun j=> ?_,fun k hk hD=> ?_,fun j hj hS k hk he=> ?_⟩
   ·rw [h.cnt j]
    by_cases e:j=i
    ·subst e
     rw [if_neg (by omega),if_neg (by simp)]
    ·rw [if_neg e]
     by_cases hc:j<i∧S j=true
     ·rw [if_pos hc,if_pos ⟨by omega,hc.2⟩]
     ·rw [if_neg hc,if_neg (fun hh=>hc ⟨by omega,hh.2⟩)]
   ·cases hd:D k with
    | true=>
      obtain ⟨j,j1,j2⟩:=h.dead k hk hd
      exact ⟨j,j1,fun l hl he=>by rw [j2 l hl he];rfl⟩
    | false=>
      rw [hd,Bool.false_or] at hD
      obtain ⟨j,j1,j2⟩:=c2 k hk hD (Bh _ hk)
      exact ⟨j,j1,fun l hl he=>by rw [j2 l hl he];simp⟩
   ·by_cases e:j=i
    ·subst e
     rw [c1 k (Nat.zero_le _) hk he];simp
    ·rw [if_neg e] at hS
     rw [h.no j (by omega) hS k hk he];rfl
section
variable {m:List Int} {S D:Nat→Bool}
theorem MtInv.one (h:MtInv n E n m S D):MtOne n E m:=⟨h.ok,fun j=>by rw [h.cnt j];split<;>omega⟩
theorem MtInv.got (h:MtInv n E n m S D) {j:Nat} (hj:j<n):(∃k,k<n∧nth m k=(j:Int))↔S j=true:=by
 have hc:=h.cnt j
 constructor
 ·rintro ⟨k,hk,e⟩
  have:=N3 (p:=fun k=>decide (nth m k=(j:Int))) hk (dtr0 e)
  unfold Afi at hc
  by_cases hs:j<n∧S j=true
  ·exact hs.2
  ·rw [if_neg hs] at hc;omega
 ·intro hs
  rw [if_pos ⟨hj,hs⟩] at hc
  obtain ⟨k,hk,e⟩:=Apb (p:=fun k=>decide (nth m k=(j:Int))) (n:=n) (by unfold Afi at hc;omega)
  exact ⟨k,hk,of_decide_eq_true e⟩
theorem MtInv.size (h:MtInv n E n m S D):Gq n m=Bz n S:=by
 refine Nat.le_antisymm ?_ ?_
 ·refine X7 (fun k=>(nth m k).toNat) (fun k hk hm=> ?_) fun k l hk hl hm hm' e=> ?_
  ·rcases h.ok.own k hk with h1 | ⟨j,h1,h2,_⟩
   ·exact absurd h1 (of_decide_eq_true hm)
   ·rw [h2,tna0]
    exact ⟨h1,(h.got h1).1 ⟨k,hk,h2⟩⟩
  ·rcases h.ok.own k hk with h1 | ⟨j,h1,h2,_⟩
   ·exact absurd h1 (of_decide_eq_true hm)
   rcases h.ok.own l hl with h1' | ⟨j',h1',h2',_⟩
   ·exact absurd h1' (of_decide_eq_true hm')
   exact h.one.inj hk hl h2 (by omega)
 ·have hch : ∀j,∃k,j<n→S j=true→k<n∧nth m k=(j:Int):=fun j=>by
   by_cases hj:j<n∧S j=true
   ·obtain ⟨k,h1,h2⟩:=(h.got hj.1).2 hj.2
    exact ⟨k,fun _ _=>⟨h1,h2⟩⟩
   ·exact ⟨0,fun h1 h2=>absurd ⟨h1,h2⟩ hj⟩
  obtain ⟨f,hf⟩:=Classical.axiomOfChoice hch
  refine X7 f (fun j hj hs=> ?_) fun i j hi hj hsi hsj e=> ?_
  ·obtain ⟨h1,h2⟩:=hf j hj hs
   exact ⟨h1,dtr0 (by omega)⟩
  ·have h1:=(hf i hi hsi).2
   have h2:=(hf j hj hsj).2
   rw [e] at h1
   omega
noncomputable def Aqt (n:Nat) (m:List Int) (D:Nat→Bool) (j:Nat):Bool:=decide (∃k,k<n∧D k=true∧nth m k=(j:Int))
theorem MtInv.dle (h:MtInv n E n m S D):Bz n D≤Bz n fun j=>S j&&Aqt n m D j:=by
 refine X7 (fun k=>(nth m k).toNat) (fun k hk hD=> ?_) fun k l hk hl hD hD' e=> ?_
 ·obtain ⟨j,h1,_⟩:=h.dead k hk hD
  have hj:j<n:=by
   rcases h.ok.own k hk with h2 | ⟨j',h2,h3,_⟩<;>omega
  rw [h1,tna0]
  refine ⟨hj,?_⟩
  rw [(h.got hj).1 ⟨k,hk,h1⟩,Bool.true_and]
  exact dtr0 ⟨k,hk,hD,h1⟩
 ·obtain ⟨j,h1,_⟩:=h.dead k hk hD
  obtain ⟨j',h1',_⟩:=h.dead l hl hD'
  exact h.one.inj hk hl h1 (by omega)
theorem MtInv.most (h:MtInv n E n m S D) {μ:List Int} (hμ:MtOne n E μ):Gq n μ≤Bz n S:=by
 have h1:=Gx n (fun k=>decide (nth μ k ≠ -1)) D
 have h2:=Gx n S fun j=>Aqt n m D j
 have h3:=h.dle
 have h4:(Bz n fun k=>decide (nth μ k ≠ -1)&&D k)≤Bz n D:=Ir fun k _ hk=>by
  rw [Bool.and_eq_true] at hk;exact hk.2
 have h5:(Bz n fun k=>decide (nth μ k ≠ -1) && !D k)≤Bz n fun j=>S j && !Aqt n m D j:=by
  refine X7 (fun k=>(nth μ k).toNat) (fun k hk hp=> ?_) fun k l hk hl hp hp' e=> ?_
  ·rw [Bool.and_eq_true] at hp
   rcases hμ.own k hk with h6 | ⟨j,h6,h7,h8⟩
   ·exact absurd h6 (of_decide_eq_true hp.1)
   ·rw [h7,tna0]
    have hD:D k=false:=by simpa using hp.2
    refine ⟨h6,?_⟩
    rw [Bool.and_eq_true]
    constructor
    ·cases hs:S j with
     | true=>rfl
     | false=>rw [h.no j h6 hs k hk h8] at hD;cases hD
    ·rw [Bool.not_eq_true']
     refine dfa0 ?_
     rintro ⟨l,hl,hDl,el⟩
     obtain ⟨j',j1,j2⟩:=h.dead l hl hDl
     have:j'=j:=by omega
     subst this
     rw [j2 k hk h8] at hD;cases hD
  ·rw [Bool.and_eq_true] at hp hp'
   rcases hμ.own k hk with h6 | ⟨j,h6,h7,_⟩
   ·exact absurd h6 (of_decide_eq_true hp.1)
   rcases hμ.own l hl with h6' | ⟨j',h6',h7',_⟩
   ·exact absurd h6' (of_decide_eq_true hp'.1)
   exact hμ.inj hk hl h7 (by omega)
 unfold Gq
 omega
theorem MtInv.apart (h:MtInv n E n m S D) : ∃A:Nat→Bool,n≤Bz n A+Bz n S ∧ ∀i j,i<n→j<n→A i=true→A j=true→E i j=false:=by
 refine ⟨fun v=>(!S v || Aqt n m D v) && !D v,?_,fun i j hi hj hA hB=> ?_⟩
 ·have h1:=Gx n (fun v => !S v || Aqt n m D v) D
  have h2:(Bz n fun v=>(!S v || Aqt n m D v)&&D v)≤Bz n D:=Ir fun k _ hk=>by
   rw [Bool.and_eq_true] at hk;exact hk.2
  have h3:=Gx n (fun v => !S v || Aqt n m D v) S
  have h4:(Bz n fun j=>S j&&Aqt n m D j)≤Bz n fun v=>(!S v || Aqt n m D v)&&S v:=Ir fun k _ hk=>by
   rw [Bool.and_eq_true] at hk
   simp [hk.1,hk.2]
  have h5:Bz n (fun v => !S v)≤Bz n fun v=>(!S v || Aqt n m D v) && !S v:=Ir fun k _ hk=>by
   simp only [Bool.not_eq_true'] at hk
   simp [hk]
  have h6:=Aiq n S
  have h7:=h.dle
  omega
 ·simp only [Bool.and_eq_true,Bool.or_eq_true,Bool.not_eq_true'] at hA hB
  cases he:E i j with
  | false=>rfl
  | true=>
    have hD:D j=true:=by
     rcases hA.1 with hs | hd
     ·exact h.no i hi hs j hj he
     ·obtain ⟨k,hk,hDk,ek⟩:=of_decide_eq_true hd
      obtain ⟨j',j1,j2⟩:=h.dead k hk hDk
      have:j'=i:=by omega
      subst this
      exact j2 j hj he
    rw [hD] at hB
    exact absurd hB.2 (by simp)
end
end
end Go.Proofs.Ytpfikenknmlajaa.Ax
namespace Go.Proofs.Ytpfikenknmlajaa.Ax
open Go Classical
theorem Arp {α:Type} {f:Nat→Option α} (h : ∀n,LeO (f n) (f (n+1))):upO f:=by
 have key : ∀n k v,f n=some v→f (n+k)=some v:=by
  intro n k v e
  induction k with
  | zero=>exact e
  | succ k ih=>exact h (n+k) v ih
 intro n m v hnm e
 have:=key n (m-n) v e
 rwa [show n+(m-n)=m by omega] at this
def Q9 (n:Nat) (s:List Bool):Nat:=Bz n fun k => !nth s k
theorem Apj {n k:Nat} {s:List Bool} (hs:s.length=n) (hk:k<n) (h:nth s k=false):Q9 n s=Q9 n (s.set k true)+1:=by
 refine Kr hk ?_ (by simp [h]) fun i hi hne=> ?_
 ·rw [Bm _ _ _ _ (by omega),if_pos rfl];rfl
 ·rw [Bm _ _ _ _ (by omega),if_neg (Ne.symm hne)]
theorem Alc {n:Nat} {s s':List Bool} (h : ∀k,k<n→nth s k=true→nth s' k=true):Q9 n s'≤Q9 n s:=Ir fun k hk hh=>by
 cases hb:nth s k with
 | false=>rfl
 | true=>rw [h k hk hb] at hh;cases hh
theorem Aq0 {less:Int→Int→Option Bool} {s1 s2:Int→Int→List Bool→List Int→Option (Bool×List Bool×List Int)} (h : ∀i a s m,LeO (s1 i a s m) (s2 i a s m)) (i a:Int) (s:List Bool) (m:List Int):LeO (Ck s1 i a s less m) (Ck s2 i a s less m):=by
 unfold Ck
 refine LeO.bind (LeO.loop (fun q=> ?_) _) fun _=>LeO.refl _
 obtain ⟨x,y,z⟩:=q
 unfold Ay
 dsimp only
 refine LeO.ite (LeO.bind (LeO.refl _) fun t=> ?_) (LeO.refl _)
 cases t with
 | inl _=>exact LeO.refl _
 | inr _=>exact LeO.ask (LeO.ask (LeO.ite (LeO.refl _) (LeO.ask (LeO.bind (h _ _ _ _) fun _=>LeO.refl _))))
theorem Auu (less:Int→Int→Option Bool) (i a:Int) (s:List Bool) (m:List Int):upO fun k=>Bd less k i a s m:=by
 have step : ∀k i a s m,LeO (Bd less k i a s m) (Bd less (k+1) i a s m):=by
  intro k
  induction k with
  | zero=>intro i a s m v e;cases e
  | succ k ih=>intro i a s m;exact Aq0 ih i a s m
 exact Arp fun k=>step k i a s m
section
variable {n:Nat} {E:Nat→Nat→Bool} (hn:n≤1000000)
include hn
theorem Atc {less:Int→Int→Option Bool} (hl : ∀i k:Nat,i<n→k<n→less i k=some (E i k)) : ∀(u:Nat) (i:Nat) (s:List Bool) (m:List Int),i<n→s.length=n→MtOk n E m→Q9 n s≤u →
  ∃o s' m',Bd less (u+1) i n s m=some (o,s',m')∧TryL n E 0 i s m o s' m':=by
 intro u
 induction u with
 | zero=>
   intro i s m hi hs hm hu
   have inner : ∀d k,k+d=n→Aj (Ay (Bd less 0) i n less) ((k:Int),s,m)=some (.inr (s,m))∧TryL n E k i s m false s m:=by
    intro d
    induction d with
    | zero=>
      intro k hk
      have:k=n:=by omega
      subst this
      refine ⟨D2 ?_,.done i s m⟩
      unfold Ay
      dsimp only
      rw [if_neg (by omega)]
    | succ d ih=>
      intro k hk
      have hs1:nth s k=true:=by
       cases hb:nth s k with
       | true=>rfl
       | false=>
         have:=N3 (p:=fun k => !nth s k) (show k<n by omega) (by simp [hb])
         unfold Q9 at hu
         omega
      obtain ⟨e,t⟩:=ih (k+1) (by omega)
      refine ⟨?_,.skip (by omega) (.inl hs1) t⟩
      rw [F7 (s':=(((k+1:Nat):Int),s,m)) ?_]
      ·exact e
      ·unfold Ay
       dsimp only
       rw [if_pos (by omega),Ae (by omega),tna0,if_pos hs1]
       simp only [obs0]
       rw [Ae (by unfold InI;omega)]
       rfl
   obtain ⟨e,t⟩:=inner n 0 (by omega)
   refine ⟨false,s,m,?_,t⟩
   show Ck (Bd less 0) i n s less m=_
   unfold Ck
   have e':Aj (Ay (Bd less 0) i n less) (0,s,m)=_:=e
   rw [e']
   rfl
 | succ u ihu=>
   intro i s m hi hs hm hu
   have inner : ∀d k (s:List Bool),k+d=n→s.length=n→Q9 n s≤u+1 → ∃o s' m',Aj (Ay (Bd less (u+1)) i n less) ((k:Int),s,m)=some (if o=true then .inl (s',m') else .inr (s',m'))∧TryL n E k i s m o s' m':=by
    intro d
    induction d with
    | zero=>
      intro k s hk hs hu
      have:k=n:=by omega
      subst this
      refine ⟨false,s,m,D2 ?_,.done i s m⟩
      unfold Ay
      dsimp only
      rw [if_neg (by omega)]
      rfl
    | succ d ih=>
      intro k s hk hs hu
      have hml:=hm.len
      have skip:(nth s k=true∨E i k=false) → ∃o s' m',Aj (Ay (Bd less (u+1)) i n less) ((k:Int),s,m)=some (if o=true then .inl (s',m') else .inr (s',m'))∧TryL n E k i s m o s' m':=by
       intro hsk
       obtain ⟨o,s',m',e,t⟩:=ih (k+1) s (by omega) hs hu
       refine ⟨o,s',m',?_,.skip (by omega) hsk t⟩
       rw [F7 (s':=(((k+1:Nat):Int),s,m)) ?_]
       ·exact e
       ·unfold Ay
        dsimp only
        rw [if_pos (by omega),Ae (by omega),tna0]
        by_cases hb:nth s k=true
        ·rw [if_pos hb]
         simp only [obs0]
         rw [Ae (by unfold InI;omega)]
         rfl
        ·rw [if_neg hb,hl i k hi (by omega)]
         rcases hsk with h | h
         ·exact absurd h hb
         ·rw [h]
          simp only [obs0,Bool.false_eq_true,if_false]
          rw [Ae (by unfold InI;omega)]
          rfl
      cases hb:nth s k with
      | true=>exact skip (.inl hb)
      | false=>
        cases he:E i k with
        | false=>exact skip (.inr he)
        | true=>
          have hset:(s.set k true).length=n:=by rw [List.length_set];exact hs
          have hun:=Apj hs (show k<n by omega) hb
          rcases hm.own k (by omega) with hf | ⟨j,hj,hf,_⟩
          ·refine ⟨true,s.set k true,m.set k (i:Int),D2 ?_,.free (by omega) hb he hf⟩
           unfold Ay
           dsimp only
           rw [if_pos (by omega),Ae (by omega),tna0,if_neg (by simp [hb]),hl i k hi (by omega),he]
           simp only [obs0,if_true]
           rw [Ae (by omega),Ae (by omega),if_pos (by omega),Ae (by omega)]
          ·obtain ⟨o1,s1,m1,e1,t1⟩:=ihu j (s.set k true) m hj hset hm (by omega)
           have q:=t1.out hset hm hj
           cases o1 with
           | true=>
             refine ⟨true,s1,m1.set k (i:Int),D2 ?_,.push (by omega) hb he hf t1⟩
             have hm1:=q.2.2.1.len
             unfold Ay
             dsimp only
             rw [if_pos (by omega),Ae (by omega),tna0,if_neg (by simp [hb]),hl i k hi (by omega),he]
             simp only [obs0,if_true]
             rw [Ae (by omega),Ae (by omega),if_neg (by omega),Ae (by omega),hf,e1]
             simp only [obs0,if_true]
             rw [Ae (by omega)]
           | false=>
             have em:=q.2.2.2.2.2 rfl
             subst em
             have hu1:Q9 n s1≤u+1:=by
              have:=Alc (n:=n) (s:=s.set k true) (s':=s1) q.2.1
              omega
             obtain ⟨o,s',m',e,t⟩:=ih (k+1) s1 (by omega) q.1 hu1
             refine ⟨o,s',m',?_,.back (by omega) hb he hf t1 t⟩
             rw [F7 (s':=(((k+1:Nat):Int),s1,m1)) ?_]
             ·exact e
             ·unfold Ay
              dsimp only
              rw [if_pos (by omega),Ae (by omega),tna0,if_neg (by simp [hb]),hl i k hi (by omega),he]
              simp only [obs0,if_true]
              rw [Ae (by omega),Ae (by omega),if_neg (by omega),Ae (by omega),hf,e1]
              simp only [obs0,Bool.false_eq_true,if_false]
              rw [Ae (by unfold InI;omega)]
              rfl
   obtain ⟨o,s',m',e,t⟩:=inner n 0 s (by omega) hs hu
   refine ⟨o,s',m',?_,t⟩
   show Ck (Bd less (u+1)) i n s less m=_
   unfold Ck
   have e':Aj (Ay (Bd less (u+1)) i n less) (0,s,m)=_:=e
   rw [e']
   cases o<;>rfl
theorem Aoa {less:Int→Int→Option Bool} (hl : ∀i k:Nat,i<n→k<n→less i k=some (E i k)) : ∃m S D,Ln n less=some ((n:Int)-(Bz n S:Nat))∧MtInv n E n m S D:=by
 have hL:=Ao
 unfold Ln
 rw [Ae (by omega),tna0]
 have k1:=Az (body:=Et n) (fun i=>((i:Int),List.replicate i (-1:Int)++List.replicate (n-i) 0)) n (List.replicate n (-1)) (fun i hi=>by
  unfold Et
  dsimp only
  rw [tna0,if_pos (by omega),Ae (by simp;omega),Ae (by unfold InI;omega),tna0,Atk _ _ _ hi (by simp),List.replicate_succ']
  rfl) (by
  unfold Et
  dsimp only
  rw [tna0,if_neg (by omega),Nat.sub_self]
  simp)
 have k1':Aj (Et n) (0,List.replicate n 0)=some (List.replicate n (-1)):=by simpa using k1
 rw [k1']
 simp only [obs0]
 obtain ⟨t,e,m,S,D,h1,h2⟩:=Hq (body:=H9 n less) (fun s => ∃(i:Nat) (S D:Nat→Bool),s.1=(i:Int)∧i≤n∧MtInv n E i s.2.2.2 S D∧(∀j,i≤j→S j=false)∧s.2.1=(n:Int)-(Bz n S:Nat)) (fun s=>n-s.1.toNat) (fun t => ∃m S D,t=(n:Int)-(Bz n S:Nat)∧MtInv n E n m S D) (by
  rintro ⟨x,w,sn,m⟩ ⟨i,S,D,rfl,hi,hM,hS,hw⟩
  dsimp only at hM hw
  have hcn:=Ac3 n S
  unfold H9
  dsimp only
  by_cases hin:i<n
  ·obtain ⟨o,s',m',e,t⟩:=Atc hn hl (Q9 n (List.replicate n false)) i (List.replicate n false) m hin (by simp) hM.ok (Nat.le_refl _)
   have e2:(Afn fun k=>Bd less k i n (List.replicate n false) m)=some (o,s',m'):=At4 (Auu less i n (List.replicate n false) m) e
   obtain ⟨D',hM'⟩:=hM.step hin t
   rw [if_pos (by omega),Ae (by omega),tna0,e2]
   simp only [obs0]
   have hS' : ∀j,i+1≤j→(if j=i then o else S j)=false:=fun j hj=>by rw [if_neg (by omega)];exact hS j (by omega)
   cases o with
   | true=>
     have hc:Bz n (fun j=>if j=i then true else S j)=Bz n S+1:=Kr hin (hS i (Nat.le_refl _)) (by simp) fun j hj hne=>by rw [if_neg hne]
     rw [if_pos rfl,Ae (by unfold InI;omega),Ae (by unfold InI;omega)]
     exact .inl ⟨_,rfl,⟨i+1,_,D',rfl,hin,hM',hS',by dsimp only;omega⟩,by dsimp only;omega⟩
   | false=>
     have hc:Bz n (fun j=>if j=i then false else S j)=Bz n S:=Ef fun j hj=>by
      by_cases h:j=i
      ·rw [if_pos h,h];exact (hS i (Nat.le_refl _)).symm
      ·rw [if_neg h]
     rw [if_neg (by simp),Ae (by unfold InI;omega)]
     exact .inl ⟨_,rfl,⟨i+1,_,D',rfl,hin,hM',hS',by dsimp only;omega⟩,by dsimp only;omega⟩
  ·have:i=n:=by omega
   subst this
   rw [if_neg (by omega)]
   exact .inr ⟨_,rfl,m,S,D,hw,hM⟩) (s:=((0:Int),(n:Int),Ar Bool,List.replicate n (-1))) ⟨0,fun _=>false,fun _=>false,rfl,Nat.zero_le _,MtInv.start n E,fun _ _=>rfl,by rw [Ti];dsimp only;omega⟩
 rw [e]
 exact ⟨m,S,D,congrArg some h1,h2⟩
end
end Go.Proofs.Ytpfikenknmlajaa.Ax
namespace Go.Proofs.Ytpfikenknmlajaa.Ax
open Go Classical
def F6 (g:Nat→Int):Nat→Int
 | 0=>0
 | k+1=>F6 g k+g k
theorem Kp {g h:Nat→Int} : ∀ {k:Nat},(∀i,i<k→g i=h i)→F6 g k=F6 h k
 | 0,_=>rfl
 | k+1,e=>by
   simp only [F6]
   rw [Kp (k:=k) fun i hi=>e i (by omega),e k (by omega)]
theorem Lt {g:Nat→Int} : ∀ {k:Nat},(∀i,i<k→g i=0)→F6 g k=0
 | 0,_=>rfl
 | k+1,e=>by
   simp only [F6]
   rw [Lt (k:=k) fun i hi=>e i (by omega),e k (by omega)];rfl
theorem Avo (g h:Nat→Int) : ∀k,F6 (fun i=>g i+h i) k=F6 g k+F6 h k
 | 0=>rfl
 | k+1=>by simp only [F6];rw [Avo g h k];omega
theorem Ah4 (c:Int) (g:Nat→Int) : ∀k,F6 (fun i=>c*g i) k=c*F6 g k
 | 0=>by simp [F6]
 | k+1=>by simp only [F6];rw [Ah4 c g k,Int.mul_add]
theorem Ac6 (g:Nat→Nat→Int) (k:Nat) : ∀l,F6 (fun a=>F6 (fun b=>g a b) l) k=F6 (fun b=>F6 (fun a=>g a b) k) l
 | 0=>by simp only [F6];exact Lt fun _ _=>rfl
 | l+1=>by
   simp only [F6]
   rw [Avo,Ac6 g k l]
theorem Aci {g:Nat→Int} {a:Nat} : ∀ {k:Nat},a<k→(∀i,i<k→i≠a→g i=0)→F6 g k=g a
 | 0,h,_=>by omega
 | k+1,h,e=>by
   simp only [F6]
   by_cases ha:a=k
   ·subst ha
    rw [Lt fun i hi=>e i (by omega) (by omega)];omega
   ·rw [Aci (k:=k) (by omega) fun i hi hne=>e i (by omega) hne,e k (by omega) (fun hh=>ha hh.symm)];omega
theorem An0 {g:Nat→Int} : ∀ {k:Nat},F6 g k≠0 → ∃i,i<k∧g i≠0
 | 0,h=>absurd rfl h
 | k+1,h=>by
   by_cases hk:g k=0
   ·simp only [F6] at h
    rw [hk,Int.add_zero] at h
    obtain ⟨i,hi,hg⟩:=An0 h
    exact ⟨i,by omega,hg⟩
   ·exact ⟨k,by omega,hk⟩
section
variable {n:Nat} {f:Nat→Nat→Bool}
theorem J8 {m x i:Nat}:Bt (D9 m x) i=true↔Bt m i=true∨x=i:=by
 rw [Aip];simp
theorem Az3 {m:Nat} {ws:List Int} (hm:m<ws.length) {t:Nat} (ht:t<ws.length) : ∀x,nth (inn n f m ws x) t=nth ws t+F6 (fun x=>if Ho n f m x=true∧D9 m x=t then nth ws m else 0) x
 | 0=>by simp [inn,F6]
 | x+1=>by
   simp only [inn,F6]
   have ih:=Az3 hm ht x
   have hat:=Ane (n:=n) (f:=f) m ws hm x
   have hl:=Aii (n:=n) (f:=f) m ws x
   unfold Aop
   rw [hat]
   by_cases hf:Ho n f m x=true
   ·by_cases h0:nth ws m=0
    ·rw [if_neg (fun hc=>hc.1 h0),ih,h0]
     split<;>omega
    ·rw [if_pos ⟨h0,hf⟩]
     rw [Bm _ _ _ _ (by omega)]
     by_cases he:D9 m x=t
     ·rw [if_pos he,if_pos ⟨hf,he⟩,he,ih];omega
     ·rw [if_neg he,if_neg (fun hc=>he hc.2),ih];omega
   ·rw [if_neg (fun hc=>hf hc.2),if_neg (fun hc=>hf hc.1),ih];omega
theorem Asy : ∀m,(Eh n f m).length=2^n
 | 0=>by simp [Eh]
 | m+1=>by simp only [Eh];rw [Aii,Asy m]
noncomputable def Li (n:Nat) (f:Nat→Nat→Bool) (m:Nat):Int:=nth (Eh n f m) m
theorem Ag5 : ∀k,k≤2^n → ∀t,t<2^n→nth (Eh n f k) t=(if t=0 then 1 else 0)+F6 (fun m=>F6 (fun x=>if Ho n f m x=true∧D9 m x=t then Li n f m else 0) n) k
 | 0,_,t,ht=>by
   simp only [Eh,F6]
   rw [Bm _ _ _ _ (by simpa using ht),Bh _ ht]
   by_cases h:t=0
   ·subst h;rfl
   ·rw [if_neg (fun hh=>h hh.symm),if_neg h];rfl
 | k+1,hk,t,ht=>by
   simp only [Eh,F6]
   rw [Az3 (by rw [Asy];omega) (by rw [Asy];exact ht),Ag5 k (by omega) t ht]
   unfold Li
   omega
theorem Aj8 {m x:Nat} (h:Ho n f m x=true) {t:Nat} (e:D9 m x=t):m<t:=by
 have:=Amk (Lx h)
 omega
theorem Ahg:Li n f 0=1:=by
 have hp:0<2^n:=Nat.pow_pos (by omega)
 have:=Ag5 (n:=n) (f:=f) 0 (by omega) 0 hp
 unfold Li
 rw [this];simp [F6]
theorem V3 {t:Nat} (h0:0<t) (ht:t<2^n) {k:Nat} (hk:t≤k) (hk2:k≤2^n):nth (Eh n f k) t=F6 (fun m=>F6 (fun x=>if Ho n f m x=true∧D9 m x=t then Li n f m else 0) n) (2^n):=by
 rw [Ag5 k hk2 t ht,if_neg (by omega),Int.zero_add]
 have key : ∀j,t≤j→j≤2^n→F6 (fun m=>F6 (fun x=>if Ho n f m x=true∧D9 m x=t then Li n f m else 0) n) j=F6 (fun m=>F6 (fun x=>if Ho n f m x=true∧D9 m x=t then Li n f m else 0) n) t:=by
  intro j
  induction j with
  | zero => intro h _;have:t=0:=by omega
            rw [this]
  | succ j ih=>
    intro h1 h2
    by_cases e:t=j+1
    ·rw [e]
    ·simp only [F6]
     rw [ih (by omega) (by omega),Lt fun x hx=>if_neg (fun hc=>by have:=Aj8 hc.1 hc.2;omega)]
     omega
 rw [key k hk hk2,key (2^n) (by omega) (Nat.le_refl _)]
def dnS (n:Nat) (f:Nat→Nat→Bool) (m:Nat):Prop := ∀a b,a<n→b<n→Bt m b=true→f a b=true→Bt m a=true
theorem A20 : ∀t,t<2^n→Li n f t≠0→dnS n f t:=by
 intro t
 induction t using Nat.strongRecOn with
 | ind t ih=>
   intro ht hw
   by_cases h0:t=0
   ·subst h0
    intro a b _ _ hb _
    rw [Gj] at hb
    simp at hb
   ·have e:Li n f t=_:=V3 (n:=n) (f:=f) (by omega) ht (Nat.le_refl t) (by omega)
    rw [e] at hw
    obtain ⟨m,hm,hg⟩:=An0 hw
    obtain ⟨x,hx,hg⟩:=An0 hg
    by_cases hc:Ho n f m x=true∧D9 m x=t
    ·rw [if_pos hc] at hg
     obtain ⟨hf,e2⟩:=hc
     have hd:=ih m (Aj8 hf e2) hm hg
     have hfr:=(of_decide_eq_true hf).2
     intro a b ha hb hbt hab
     rw [←e2,J8] at hbt ⊢
     rcases hbt with h1 | h1
     ·exact .inl (hd a b ha hb h1 hab)
     ·by_cases e3:a=x
      ·exact .inr e3.symm
      ·exact .inl (hfr a ha e3 (by rw [h1];exact hab))
    ·rw [if_neg hc] at hg
     exact absurd rfl hg
def coM (n m:Nat):Nat:=2^n-(m+1)
theorem Afb (n m:Nat):coM n m<2^n:=by
 have:0<2^n:=Nat.pow_pos (by omega)
 unfold coM;omega
theorem Wl {m i:Nat} (hm:m<2^n) (hi:i<n):Bt (coM n m) i = !Bt m i:=by
 rw [Gj,Gj]
 unfold coM
 rw [Nat.testBit_two_pow_sub_succ hm,dtr0 hi,Bool.true_and]
theorem Amh {m t:Nat} (hm:m<2^n) (ht:t<2^n) (h : ∀i,i<n→Bt m i=Bt t i):m=t:=by
 refine Nat.eq_of_testBit_eq fun i=> ?_
 by_cases hi:i<n
 ·rw [←Gj,←Gj];exact h i hi
 ·have hp:2^n≤2^i:=Nat.pow_le_pow_right (by omega) (by omega)
  rw [Nat.testBit_lt_two_pow (by omega),Nat.testBit_lt_two_pow (by omega)]
theorem A4q {m x m2:Nat} (hm:m<2^n) (hx:x<n) (hm2:m2<2^n) (h2:Bt m2 x=false) (e:D9 m2 x=coM n m):Bt m x=false∧m2=coM n (D9 m x):=by
 have hb : ∀i,i<n→((Bt m2 i=true∨x=i)↔Bt m i=false):=fun i hi=>by
  rw [←J8,e,Wl hm hi];simp
 have h1:Bt m x=false:=(hb x hx).1 (.inr rfl)
 refine ⟨h1,Amh hm2 (Afb _ _) fun i hi=> ?_⟩
 rw [Wl (W0 hm hx) hi,Bool.eq_iff_iff,Bool.not_eq_true']
 constructor
 ·intro h
  cases hc:Bt (D9 m x) i with
  | false=>rfl
  | true=>
    rcases J8.1 hc with h3 | h3
    ·have:=(hb i hi).1 (.inl h)
     rw [this] at h3;cases h3
    ·rw [←h3,h2] at h;cases h
 ·intro h
  have h3:¬(Bt m i=true∨x=i):=fun hh=>by rw [J8.2 hh] at h;cases h
  have h4:Bt m i=false:=by
   cases hc:Bt m i with
   | false=>rfl
   | true=>exact absurd (.inl hc) h3
  rcases (hb i hi).2 h4 with h5 | h5
  ·exact h5
  ·exact absurd (.inr h5) h3
theorem Ash {m x:Nat} (hm:m<2^n) (hx:x<n) (h:Bt m x=false):D9 (coM n (D9 m x)) x=coM n m∧Bt (coM n (D9 m x)) x=false:=by
 have hlt:=W0 hm hx
 refine ⟨Amh (W0 (Afb _ _) hx) (Afb _ _) fun i hi=> ?_,?_⟩
 ·rw [Bool.eq_iff_iff,J8,Wl hlt hi,Wl hm hi,Bool.not_eq_true',Bool.not_eq_true']
  constructor
  ·rintro (h1 | h1)
   ·cases hc:Bt m i with
    | false=>rfl
    | true=>rw [J8.2 (.inl hc)] at h1;cases h1
   ·rw [←h1];exact h
  ·intro h1
   by_cases e:x=i
   ·exact .inr e
   ·left
    cases hc:Bt (D9 m x) i with
    | false=>rfl
    | true=>
      rcases J8.1 hc with h2 | h2
      ·rw [h1] at h2;cases h2
      ·exact absurd h2 e
 ·rw [Wl hlt hx,J8.2 (.inr rfl)];rfl
noncomputable def lvl (n:Nat) (f:Nat→Nat→Bool) (k:Nat):Int:=F6 (fun m=>if pc n m=k then Li n f m*Li n (fun y x=>f x y) (coM n m) else 0) (2^n)
noncomputable def stp (n:Nat) (f:Nat→Nat→Bool) (k:Nat):Int:=F6 (fun m=>F6 (fun x=>if pc n m=k∧Bt m x=false then Li n f m*Li n (fun y x=>f x y) (coM n (D9 m x)) else 0) n) (2^n)
theorem Avy {m x:Nat} (hm:m<2^n) (hx:x<n) (hb:Bt m x=false) (hw:Li n f m*Li n (fun y x=>f x y) (coM n (D9 m x))≠0):Ho n f m x=true∧Ho n (fun y x=>f x y) (coM n (D9 m x)) x=true:=by
 have hlt:=W0 hm hx
 have h1:=A20 (n:=n) (f:=f) m hm (fun h=>hw (by rw [h,Int.zero_mul]))
 have h2:=A20 (n:=n) (f:=fun y x=>f x y) _ (Afb n (D9 m x)) (fun h=>hw (by rw [h,Int.mul_zero]))
 constructor
 ·refine dtr0 ⟨hb,fun y hy hne hf=> ?_⟩
  cases hc:Bt m y with
  | true=>rfl
  | false=>
    have hy1:Bt (coM n (D9 m x)) y=true:=by
     rw [Wl hlt hy,Bool.not_eq_true']
     cases hd:Bt (D9 m x) y with
     | false=>rfl
     | true=>
       rcases J8.1 hd with h3 | h3
       ·rw [hc] at h3;cases h3
       ·exact absurd h3.symm hne
    have:=h2 x y hx hy hy1 hf
    rw [(Ash hm hx hb).2] at this
    cases this
 ·refine dtr0 ⟨(Ash hm hx hb).2,fun y hy hne hf=> ?_⟩
  rw [Wl hlt hy,Bool.not_eq_true']
  cases hd:Bt (D9 m x) y with
  | false=>rfl
  | true=>
    rcases J8.1 hd with h3 | h3
    ·have:=h1 x y hx hy h3 hf
     rw [hb] at this;cases this
    ·exact absurd h3.symm hne
theorem Azc {m:Nat} (_hm:m<2^n) (h : ∀i,i<n→Bt m i=true):pc n m=n:=by
 unfold pc Al
 rw [List.length_map,List.filter_eq_self.2 fun i hi=>h i (List.mem_range.1 hi),List.length_range]
theorem A6c {m:Nat} (h:pc n m<n) : ∃x,x<n∧Bt m x=false:=by
 refine Classical.byContradiction fun hc=> ?_
 have:pc n m=n:=by
  unfold pc Al
  rw [List.length_map,List.filter_eq_self.2 fun i hi=>by
   cases hb:Bt m i with
   | true=>rfl
   | false=>exact absurd ⟨i,List.mem_range.1 hi,hb⟩ hc,List.length_range]
 omega
theorem A79 {m:Nat} (hm:m<2^n) (h:pc n m<n):0<coM n m:=by
 obtain ⟨x,hx,hb⟩:=A6c h
 rcases Nat.eq_zero_or_pos (coM n m) with h0 | h0
 ·have:=Wl hm hx
  rw [h0,hb,Gj] at this
  simp at this
 ·exact h0
theorem A8w {k:Nat} (hk:k<n):lvl n f k=stp n f k:=by
 unfold lvl stp
 refine Kp fun m hm=> ?_
 by_cases hp:pc n m=k
 ·rw [if_pos hp]
  have e:Li n (fun y x=>f x y) (coM n m)=_:=V3 (n:=n) (f:=fun y x=>f x y) (A79 hm (by omega)) (Afb n m) (Nat.le_refl _) (Nat.le_of_lt (Afb n m))
  rw [e,Ac6,←Ah4]
  refine Kp fun x hx=> ?_
  by_cases hb:Bt m x=false
  ·rw [if_pos ⟨hp,hb⟩,Aci (Afb n (D9 m x)) fun m2 hm2 hne=>if_neg fun hc=>hne (A4q hm hx hm2 (Lx hc.1) hc.2).2]
   by_cases hw:Li n f m*Li n (fun y x=>f x y) (coM n (D9 m x))=0
   ·split
    ·rfl
    ·rw [hw,Int.mul_zero]
   ·rw [if_pos ⟨(Avy hm hx hb hw).2,(Ash hm hx hb).1⟩]
  ·rw [if_neg (fun hc=>hb hc.2),Lt fun m2 hm2=>if_neg fun hc=>hb (A4q hm hx hm2 (Lx hc.1) hc.2).1,Int.mul_zero]
 ·rw [if_neg hp]
  exact (Lt fun x _=>if_neg fun hc=>hp hc.1).symm
theorem A82 {k:Nat}:lvl n f (k+1)=stp n f k:=by
 have h1:lvl n f (k+1)=F6 (fun t=>F6 (fun m=>F6 (fun x=>if pc n t=k+1∧Ho n f m x=true∧D9 m x=t then Li n f m*Li n (fun y x=>f x y) (coM n t) else 0) n) (2^n)) (2^n):=by
  unfold lvl
  refine Kp fun t ht=> ?_
  by_cases hp:pc n t=k+1
  ·rw [if_pos hp]
   have h0:0<t:=by
    rcases Nat.eq_zero_or_pos t with h0 | h0
    ·rw [h0] at hp
     have:pc n 0=0:=by
      unfold pc
      rw [List.length_eq_zero_iff]
      exact Tf.2 fun i _=>by rw [Gj];simp
     omega
    ·exact h0
   have e:Li n f t=_:=V3 (n:=n) (f:=f) h0 ht (Nat.le_refl t) (by omega)
   rw [e,Int.mul_comm,←Ah4]
   refine Kp fun m _=> ?_
   rw [←Ah4]
   refine Kp fun x _=> ?_
   by_cases hc:Ho n f m x=true∧D9 m x=t
   ·rw [if_pos hc,if_pos ⟨hp,hc⟩,Int.mul_comm]
   ·rw [if_neg hc,if_neg (fun hh=>hc hh.2),Int.mul_zero]
  ·rw [if_neg hp]
   exact (Lt fun m _=>Lt fun x _=>if_neg fun hc=>hp hc.1).symm
 rw [h1,Ac6]
 unfold stp
 refine Kp fun m hm=> ?_
 rw [Ac6]
 refine Kp fun x hx=> ?_
 by_cases hb:Bt m x=false
 ·have hpc:=At3 hx hb
  rw [Aci (W0 hm hx) fun t _ hne=>if_neg fun hc=>hne hc.2.2.symm]
  by_cases hp:pc n m=k
  ·rw [if_pos (show pc n m=k∧Bt m x=false from ⟨hp,hb⟩)]
   by_cases hw:Li n f m*Li n (fun y x=>f x y) (coM n (D9 m x))=0
   ·rw [hw];split<;>rfl
   ·rw [if_pos ⟨by omega,(Avy hm hx hb hw).1,rfl⟩]
  ·rw [if_neg (fun hc:pc n (D9 m x)=k+1∧Ho n f m x=true∧D9 m x=D9 m x=>by have:=hc.1;omega),if_neg (fun hc:pc n m=k∧Bt m x=false=>hp hc.1)]
 ·rw [if_neg (fun hc=>hb hc.2)]
  exact Lt fun t _=>if_neg fun hc=>hb (Lx hc.2.1)
theorem Aur : ∀k,k≤n→lvl n f k=lvl n f 0
 | 0,_=>rfl
 | k+1,h=>by rw [A82,←A8w (by omega),Aur k (by omega)]
theorem A6b {m:Nat} (hm:m<2^n) (h:pc n m=0):m=0:=by
 have hp:0<2^n:=Nat.pow_pos (by omega)
 unfold pc at h
 refine Amh hm hp fun i hi=> ?_
 rw [Tf.1 (List.length_eq_zero_iff.1 h) i hi,Gj]
 simp
theorem A4w {m:Nat} (hm:m<2^n) (h:pc n m=n):m=2^n-1:=by
 have hp:0<2^n:=Nat.pow_pos (by omega)
 refine Amh hm (by omega) fun i hi=> ?_
 rw [Gj (2^n-1),Nat.testBit_two_pow_sub_one,dtr0 hi]
 cases hb:Bt m i with
 | true=>rfl
 | false=>
   have:=At3 hi hb
   have:=A7e n (D9 m i)
   omega
theorem A0o:nth (Eh n f (2^n)) (2^n-1)=nth (Eh n (fun y x=>f x y) (2^n)) (2^n-1):=by
 have hp:0<2^n:=Nat.pow_pos (by omega)
 have fin : ∀g:Nat→Nat→Bool,nth (Eh n g (2^n)) (2^n-1)=Li n g (2^n-1):=fun g=>by
  rcases Nat.eq_zero_or_pos n with h0 | h0
  ·subst h0
   have e1:=Ag5 (n:=0) (f:=g) (2^0) (Nat.le_refl _) 0 (by decide)
   rw [show 2^0-1=0 from rfl,e1,Ahg]
   simp [F6]
  ·have hgt:0<2^n-1:=by
    have:2^1≤2^n:=Nat.pow_le_pow_right (by omega) h0
    omega
   have e1:=V3 (n:=n) (f:=g) hgt (by omega) (k:=2^n) (by omega) (Nat.le_refl _)
   have e2:Li n g (2^n-1)=_:=V3 (n:=n) (f:=g) hgt (by omega) (Nat.le_refl (2^n-1)) (by omega)
   rw [e1,e2]
 rw [fin f,fin fun y x=>f x y]
 have h1:lvl n f n=Li n f (2^n-1):=by
  unfold lvl
  rw [Aci (a:=2^n-1) (by omega) fun m hm hne=>if_neg fun hc=>hne (A4w hm hc)]
  have hf:pc n (2^n-1)=n:=Azc (by omega) fun i hi=>by
   rw [Gj,Nat.testBit_two_pow_sub_one,dtr0 hi]
  rw [if_pos hf,show coM n (2^n-1)=0 by unfold coM;omega,Ahg,Int.mul_one]
 have h2:lvl n f 0=Li n (fun y x=>f x y) (2^n-1):=by
  unfold lvl
  rw [Aci (a:=0) hp fun m hm hne=>if_neg fun hc=>hne (A6b hm hc)]
  have hz:pc n 0=0:=by
   unfold pc
   rw [List.length_eq_zero_iff]
   exact Tf.2 fun i _=>by rw [Gj];simp
  rw [if_pos hz,Ahg,Int.one_mul]
  rfl
 rw [←h1,←h2]
 exact Aur n (Nat.le_refl n)
end
end Go.Proofs.Ytpfikenknmlajaa.Ax
namespace Go.Proofs.Ytpfikenknmlajaa.Ax
open Go Classical
def Nx (n:Nat) (E:Nat→Nat→Bool) (v:Nat):Prop:=(∃m,MtOne n E m∧Gq n m=v) ∧ ∀m,MtOne n E m→Gq n m≤v
section
variable {n:Nat} {E:Nat→Nat→Bool}
theorem Nx.uniq {v w:Nat} (h:Nx n E v) (h':Nx n E w):v=w:=by
 obtain ⟨⟨m,h1,h2⟩,h3⟩:=h
 obtain ⟨⟨m',h1',h2'⟩,h3'⟩:=h'
 have:=h3 m' h1'
 have:=h3' m h1
 omega
theorem MtInv.nu {m:List Int} {S D:Nat→Bool} (h:MtInv n E n m S D):Nx n E (Bz n S):=⟨⟨m,h.one,h.size⟩,fun _ hμ=>h.most hμ⟩
theorem Az6 (P:Nat→Prop) : ∀(b v:Nat),P v→(∀u,P u→u≤v+b) → ∃v,P v ∧ ∀u,P u→u≤v
 | 0,v,h,hb=>⟨v,h,hb⟩
 | b+1,v,h,hb=>by
   by_cases hx : ∃u,P u∧v<u
   ·obtain ⟨u,hu,hlt⟩:=hx
    exact Az6 P b u hu fun w hw=>by have:=hb w hw;omega
   ·exact ⟨v,h,fun u hu=>Classical.byContradiction fun hc=>hx ⟨u,hu,by omega⟩⟩
theorem Az4 (n:Nat) (E:Nat→Nat→Bool):MtOne n E (List.replicate n (-1))∧Gq n (List.replicate n (-1))=0:=by
 refine ⟨⟨⟨by simp,fun k hk=> .inl (Bh _ hk)⟩,fun j=> ?_⟩,?_⟩
 ·unfold Afi
  rw [Ef (q:=fun _=>false) fun k hk=>by rw [Bh _ hk];exact dfa0 (by omega),Ti]
  omega
 ·unfold Gq
  rw [Ef (q:=fun _=>false) fun k hk=>by rw [Bh _ hk];rfl,Ti]
theorem Arv (n:Nat) (E:Nat→Nat→Bool) : ∃v,Nx n E v:=by
 obtain ⟨h1,h2⟩:=Az4 n E
 obtain ⟨v,⟨m,hm,e⟩,hv⟩:=Az6 (fun v => ∃m,MtOne n E m∧Gq n m=v) n 0 ⟨_,h1,h2⟩ (fun u ⟨m,_,e⟩=>by
  have:=Ac3 n fun k=>decide (nth m k ≠ -1)
  unfold Gq at e
  omega)
 exact ⟨v,⟨m,hm,e⟩,fun m hm=>hv _ ⟨m,hm,rfl⟩⟩
theorem Nx.congr {E':Nat→Nat→Bool} (h : ∀j k,j<n→k<n→E j k=E' j k) {v:Nat} (hv:Nx n E v):Nx n E' v:=by
 have key : ∀ {E E':Nat→Nat→Bool},(∀j k,j<n→k<n→E j k=E' j k) → ∀m,MtOne n E m→MtOne n E' m:=fun h m hm=>⟨⟨hm.len,fun k hk=>by
  rcases hm.own k hk with h1 | ⟨j,h1,h2,h3⟩
  ·exact .inl h1
  ·exact .inr ⟨j,h1,h2,by rw [←h j k h1 hk];exact h3⟩⟩,hm.one⟩
 obtain ⟨⟨m,h1,h2⟩,h3⟩:=hv
 exact ⟨⟨m,key h m h1,h2⟩,fun m hm=>h3 m (key (fun j k hj hk=>(h j k hj hk).symm) m hm)⟩
theorem Anm {m:List Int} (h:MtOk n E m) (hi : ∀k l j:Nat,k<n→l<n→nth m k=(j:Int)→nth m l=(j:Int)→k=l):MtOne n E m:=by
 refine ⟨h,fun j=> ?_⟩
 refine Classical.byContradiction fun hc=> ?_
 obtain ⟨k,hk,ek⟩:=Apb (n:=n) (p:=fun k=>decide (nth m k=(j:Int))) (by unfold Afi at hc;omega)
 have hsplit:=Gx n (fun k=>decide (nth m k=(j:Int))) fun l=>decide (l=k)
 have h1:Bz n (fun l=>decide (nth m l=(j:Int))&&decide (l=k))≤1:=by
  have:=Kr (n:=n) (k:=k) (p:=fun _=>false) (q:=fun l=>decide (l=k)) hk rfl (by simp) fun i _ hne=>by simp [hne]
  rw [Ti] at this
  have h2:=Ir (n:=n) (p:=fun l=>decide (nth m l=(j:Int))&&decide (l=k)) (q:=fun l=>decide (l=k)) fun i _ hh=>by
   rw [Bool.and_eq_true] at hh;exact hh.2
  omega
 have h2:0<Bz n fun l=>decide (nth m l=(j:Int)) && !decide (l=k):=by unfold Afi at hc;omega
 obtain ⟨l,hl,el⟩:=Apb h2
 rw [Bool.and_eq_true] at el
 have:=hi k l j hk hl (of_decide_eq_true ek) (of_decide_eq_true el.1)
 simp [this] at el
end
section
variable {n:Nat} {L:Nat→Nat→Bool}
def frG (L:Nat→Nat→Bool) (i:Nat) (φ:List Int) (j k:Nat):Bool:=(decide (i≤j)&&decide (nth φ k = -1))&&L j k
def fxG (L:Nat→Nat→Bool) (i:Nat) (φ:List Int) (j k:Nat):Bool:=if j<i then decide (nth φ k=(j:Int)) else L j k
structure Gave (n:Nat) (L:Nat→Nat→Bool) (i:Nat) (φ:List Int):Prop where
 one:MtOne n L φ
 low : ∀k,k<n→nth φ k<(i:Int)
theorem D8 {i:Nat} {φ:List Int} {j k:Nat}:frG L i φ j k=true↔i≤j∧nth φ k = -1∧L j k=true:=by
 unfold frG
 rw [Bool.and_eq_true,Bool.and_eq_true,decide_eq_true_eq,decide_eq_true_eq,and_assoc]
theorem A1v {i:Nat} {φ:List Int} (_hi:i≤n) (h:Gave n L i φ) {v:Nat} (hv:Nx n (frG L i φ) v):Nx n (fxG L i φ) (Gq n φ+v):=by
 obtain ⟨⟨μ,hμ,e⟩,hmax⟩:=hv
 have hφl:=h.one.len
 constructor
 ·-- both together
  have hat : ∀k,k<n→nth ((List.range n).map fun k=>if nth φ k = -1 then nth μ k else nth φ k) k=if nth φ k = -1 then nth μ k else nth φ k:=fun k hk=>by
   rw [K2 _ (by simpa using hk),I7 hk]
  refine ⟨(List.range n).map fun k=>if nth φ k = -1 then nth μ k else nth φ k,Anm ⟨by simp,fun k hk=> ?_⟩ fun k l j hk hl ek el=> ?_,?_⟩
  ·rw [hat k hk]
   by_cases h1:nth φ k = -1
   ·rw [if_pos h1]
    rcases hμ.own k hk with h2 | ⟨j,h2,h3,h4⟩
    ·exact .inl h2
    ·obtain ⟨g1,g2,g3⟩:=D8.1 h4
     refine .inr ⟨j,h2,h3,?_⟩
     unfold fxG
     rw [if_neg (by omega)];exact g3
   ·rw [if_neg h1]
    rcases h.one.own k hk with h2 | ⟨j,h2,h3,_⟩
    ·exact absurd h2 h1
    ·have:=h.low k hk
     refine .inr ⟨j,h2,h3,?_⟩
     unfold fxG
     rw [if_pos (by omega)];exact dtr0 h3
  ·rw [hat k hk] at ek
   rw [hat l hl] at el
   have low : ∀k,k<n→nth φ k ≠ -1 → ∀j:Nat,nth φ k=(j:Int)→j<i:=fun k hk _ j e=>by have:=h.low k hk;omega
   have high : ∀k,k<n → ∀j:Nat,nth μ k=(j:Int)→i≤j:=fun k hk j e=>by
    rcases hμ.own k hk with h2 | ⟨j',h2,h3,h4⟩
    ·omega
    ·have:=(D8.1 h4).1;omega
   by_cases h1:nth φ k = -1
   ·rw [if_pos h1] at ek
    by_cases h2:nth φ l = -1
    ·rw [if_pos h2] at el
     exact hμ.inj hk hl ek el
    ·rw [if_neg h2] at el
     have:=low l hl h2 j el
     have:=high k hk j ek
     omega
   ·rw [if_neg h1] at ek
    by_cases h2:nth φ l = -1
    ·rw [if_pos h2] at el
     have:=low k hk h1 j ek
     have:=high l hl j el
     omega
    ·rw [if_neg h2] at el
     exact h.one.inj hk hl ek el
  ·rw [←e]
   unfold Gq
   rw [Gx n _ fun k=>decide (nth φ k ≠ -1)]
   congr 1
   ·refine Ef fun k hk=> ?_
    rw [hat k hk]
    by_cases h1:nth φ k = -1
    ·rw [if_pos h1,h1];simp
    ·rw [if_neg h1,dtr0 h1];rfl
   ·refine Ef fun k hk=> ?_
    rw [hat k hk]
    by_cases h1:nth φ k = -1
    ·rw [if_pos h1,h1];simp
    ·rw [if_neg h1,dtr0 h1]
     rcases hμ.own k hk with h2 | ⟨j,h2,h3,h4⟩
     ·rw [h2];rfl
     ·exact absurd (D8.1 h4).2.1 h1
 ·intro ν hν
  have hat : ∀k,k<n→nth ((List.range n).map fun k=>if nth φ k = -1 then nth ν k else -1) k=if nth φ k = -1 then nth ν k else -1:=fun k hk=>by
   rw [K2 _ (by simpa using hk),I7 hk]
  have hG:MtOne n (frG L i φ) ((List.range n).map fun k=>if nth φ k = -1 then nth ν k else -1):=by
   refine Anm ⟨by simp,fun k hk=> ?_⟩ fun k l j hk hl ek el=> ?_
   ·rw [hat k hk]
    by_cases h1:nth φ k = -1
    ·rw [if_pos h1]
     rcases hν.own k hk with h2 | ⟨j,h2,h3,h4⟩
     ·exact .inl h2
     ·unfold fxG at h4
      by_cases hj:j<i
      ·rw [if_pos hj] at h4
       have:=of_decide_eq_true h4
       omega
      ·rw [if_neg hj] at h4
       exact .inr ⟨j,h2,h3,D8.2 ⟨by omega,h1,h4⟩⟩
    ·rw [if_neg h1];exact .inl rfl
   ·rw [hat k hk] at ek
    rw [hat l hl] at el
    by_cases h1:nth φ k = -1
    ·rw [if_pos h1] at ek
     by_cases h2:nth φ l = -1
     ·rw [if_pos h2] at el;exact hν.inj hk hl ek el
     ·rw [if_neg h2] at el;omega
    ·rw [if_neg h1] at ek;omega
  have hle:=hmax _ hG
  have hsp:=Gx n (fun k=>decide (nth ν k ≠ -1)) fun k=>decide (nth φ k ≠ -1)
  have h1:(Bz n fun k=>decide (nth ν k ≠ -1)&&decide (nth φ k ≠ -1))≤Gq n φ:=Ir fun k _ hh=>by
   rw [Bool.and_eq_true] at hh;exact hh.2
  have h2:(Bz n fun k=>decide (nth ν k ≠ -1) && !decide (nth φ k ≠ -1))=Gq n ((List.range n).map fun k=>if nth φ k = -1 then nth ν k else -1):=by
   unfold Gq
   refine Ef fun k hk=> ?_
   rw [hat k hk]
   by_cases h1:nth φ k = -1
   ·rw [if_pos h1,h1];simp
   ·rw [if_neg h1];simp [h1]
  unfold Gq at h1 h2 hle ⊢
  omega
theorem Aoj (n:Nat) (L:Nat→Nat→Bool):Gave n L 0 (List.replicate n (-1))∧Gq n (List.replicate n (-1))=0:=by
 obtain ⟨h1,h2⟩:=Az4 n L
 exact ⟨⟨h1,fun k hk=>by rw [Bh _ hk];omega⟩,h2⟩
theorem Ar2 {v:Nat}:Nx n (frG L 0 (List.replicate n (-1))) v↔Nx n L v:=by
 have e : ∀j k,j<n→k<n→frG L 0 (List.replicate n (-1)) j k=L j k:=fun j k _ hk=>by
  unfold frG
  rw [Bh _ hk];simp
 exact ⟨fun h=>h.congr e,fun h=>h.congr fun j k hj hk=>(e j k hj hk).symm⟩
section
variable {i:Nat} {φ:List Int} (hi:i<n) (h:Gave n L i φ)
include hi h
theorem Au4 {y:Nat} (hy:y<n) (hf:nth φ y = -1) (hL:L i y=true):Gave n L (i+1) (φ.set y (i:Int))∧Gq n (φ.set y (i:Int))=Gq n φ+1:=by
 have hl:=h.one.len
 have hat : ∀k,k<n→nth (φ.set y (i:Int)) k=if y=k then (i:Int) else nth φ k:=fun k hk=>Bm _ _ _ _ (by omega)
 refine ⟨⟨Anm (h.one.toMtOk.set hy hi hL) fun k l j hk hl' ek el=> ?_,fun k hk=> ?_⟩,?_⟩
 ·rw [hat k hk] at ek
  rw [hat l hl'] at el
  have low : ∀k,k<n→nth φ k<(i:Int):=h.low
  by_cases h1:y=k
  ·rw [if_pos h1] at ek
   by_cases h2:y=l
   ·omega
   ·rw [if_neg h2] at el
    have:=low l hl';omega
  ·rw [if_neg h1] at ek
   by_cases h2:y=l
   ·rw [if_pos h2] at el
    have:=low k hk;omega
   ·rw [if_neg h2] at el
    exact h.one.inj hk hl' ek el
 ·rw [hat k hk]
  have:=h.low k hk
  split<;>omega
 ·unfold Gq
  refine Kr hy (by rw [hf];rfl) (by rw [hat y hy,if_pos rfl];exact dtr0 (by omega)) fun k hk hne=> ?_
  rw [hat k hk,if_neg (Ne.symm hne)]
omit hi in
theorem A1k:Gave n L (i+1) φ:=⟨h.one,fun k hk=>by have:=h.low k hk;omega⟩
theorem A1j {y v v':Nat} (hy:y<n) (hf:nth φ y = -1) (hL:L i y=true) (hv:Nx n (frG L i φ) v) (hv':Nx n (frG L (i+1) (φ.set y (i:Int))) v'):v'+1≤v:=by
 obtain ⟨⟨μ,hμ,e⟩,_⟩:=hv'
 have hl:=h.one.len
 have hat : ∀k,k<n→nth (φ.set y (i:Int)) k=if y=k then (i:Int) else nth φ k:=fun k hk=>Bm _ _ _ _ (by omega)
 have hμl:=hμ.len
 have hμy:nth μ y = -1:=by
  rcases hμ.own y hy with h1 | ⟨j,_,_,h3⟩
  ·exact h1
  ·have:=(D8.1 h3).2.1
   rw [hat y hy,if_pos rfl] at this
   omega
 have hat' : ∀k,k<n→nth (μ.set y (i:Int)) k=if y=k then (i:Int) else nth μ k:=fun k hk=>Bm _ _ _ _ (by omega)
 have key:MtOne n (frG L i φ) (μ.set y (i:Int)):=by
  refine Anm ⟨by rw [List.length_set];exact hμl,fun k hk=> ?_⟩ fun k l j hk hl' ek el=> ?_
  ·rw [hat' k hk]
   by_cases h1:y=k
   ·rw [if_pos h1,←h1]
    exact .inr ⟨i,hi,rfl,D8.2 ⟨Nat.le_refl _,hf,hL⟩⟩
   ·rw [if_neg h1]
    rcases hμ.own k hk with h2 | ⟨j,h2,h3,h4⟩
    ·exact .inl h2
    ·obtain ⟨g1,g2,g3⟩:=D8.1 h4
     rw [hat k hk,if_neg h1] at g2
     exact .inr ⟨j,h2,h3,D8.2 ⟨by omega,g2,g3⟩⟩
  ·rw [hat' k hk] at ek
   rw [hat' l hl'] at el
   have high : ∀k,k<n → ∀j:Nat,nth μ k=(j:Int)→i+1≤j:=fun k hk j e=>by
    rcases hμ.own k hk with h2 | ⟨j',h2,h3,h4⟩
    ·omega
    ·have:=(D8.1 h4).1;omega
   by_cases h1:y=k
   ·rw [if_pos h1] at ek
    by_cases h2:y=l
    ·omega
    ·rw [if_neg h2] at el
     have:=high l hl' j el;omega
   ·rw [if_neg h1] at ek
    by_cases h2:y=l
    ·rw [if_pos h2] at el
     have:=high k hk j ek;omega
    ·rw [if_neg h2] at el
     exact hμ.inj hk hl' ek el
 have:=hv.2 _ key
 have hsz:Gq n (μ.set y (i:Int))=Gq n μ+1:=by
  unfold Gq
  refine Kr hy (by rw [hμy];rfl) (by rw [hat' y hy,if_pos rfl];exact dtr0 (by omega)) fun k hk hne=> ?_
  rw [hat' k hk,if_neg (Ne.symm hne)]
 omega
theorem A5s {v w:Nat} (hv:Nx n (frG L i φ) v) (hw:Nx n (frG L (i+1) φ) w):w≤v∧(w=v ∨ ∃y,y<n∧nth φ y = -1∧L i y=true ∧ ∀v',Nx n (frG L (i+1) (φ.set y (i:Int))) v'→v'+1=v):=by
 have hl:=h.one.len
 have up : ∀μ,MtOne n (frG L (i+1) φ) μ→MtOne n (frG L i φ) μ:=fun μ hμ=>⟨⟨hμ.len,fun k hk=>by
  rcases hμ.own k hk with h1 | ⟨j,h1,h2,h3⟩
  ·exact .inl h1
  ·obtain ⟨g1,g2,g3⟩:=D8.1 h3
   exact .inr ⟨j,h1,h2,D8.2 ⟨by omega,g2,g3⟩⟩⟩,hμ.one⟩
 have hle:w≤v:=by
  obtain ⟨⟨μ,hμ,e⟩,_⟩:=hw
  rw [←e];exact hv.2 _ (up μ hμ)
 refine ⟨hle,?_⟩
 have hv0:=hv
 obtain ⟨⟨μ,hμ,e⟩,hmax⟩:=hv
 have hμl:=hμ.len
 by_cases hown : ∃y,y<n∧nth μ y=(i:Int)
 ·obtain ⟨y,hy,ey⟩:=hown
  right
  have hyE:nth φ y = -1∧L i y=true:=by
   rcases hμ.own y hy with h1 | ⟨j,_,h2,h3⟩
   ·omega
   ·have:j=i:=by omega
    subst this
    exact (D8.1 h3).2
  refine ⟨y,hy,hyE.1,hyE.2,fun v' hv'=> ?_⟩
  have hup:=A1j hi h hy hyE.1 hyE.2 hv0 hv'
  have hat : ∀k,k<n→nth (φ.set y (i:Int)) k=if y=k then (i:Int) else nth φ k:=fun k hk=>Bm _ _ _ _ (by omega)
  have hat' : ∀k,k<n→nth (μ.set y (-1)) k=if y=k then -1 else nth μ k:=fun k hk=>Bm _ _ _ _ (by omega)
  have key:MtOne n (frG L (i+1) (φ.set y (i:Int))) (μ.set y (-1)):=by
   refine Anm ⟨by rw [List.length_set];exact hμl,fun k hk=> ?_⟩ fun k l j hk hl' ek el=> ?_
   ·rw [hat' k hk]
    by_cases h1:y=k
    ·rw [if_pos h1];exact .inl rfl
    ·rw [if_neg h1]
     rcases hμ.own k hk with h2 | ⟨j,h2,h3,h4⟩
     ·exact .inl h2
     ·obtain ⟨g1,g2,g3⟩:=D8.1 h4
      refine .inr ⟨j,h2,h3,D8.2 ⟨?_,by rw [hat k hk,if_neg h1];exact g2,g3⟩⟩
      rcases Nat.lt_or_ge i j with h5 | h5
      ·exact h5
      ·have:j=i:=by omega
       subst this
       exact absurd (hμ.inj hy hk ey h3) h1
   ·rw [hat' k hk] at ek
    rw [hat' l hl'] at el
    by_cases h1:y=k
    ·rw [if_pos h1] at ek;omega
    ·rw [if_neg h1] at ek
     by_cases h2:y=l
     ·rw [if_pos h2] at el;omega
     ·rw [if_neg h2] at el
      exact hμ.inj hk hl' ek el
  have hle':=hv'.2 _ key
  have hsz:Gq n μ=Gq n (μ.set y (-1))+1:=by
   unfold Gq
   refine Kr hy (by rw [hat' y hy,if_pos rfl];rfl) (by rw [ey];exact dtr0 (by omega)) fun k hk hne=> ?_
   rw [hat' k hk,if_neg (Ne.symm hne)]
  omega
 ·left
  have key:MtOne n (frG L (i+1) φ) μ:=⟨⟨hμl,fun k hk=>by
   rcases hμ.own k hk with h1 | ⟨j,h1,h2,h3⟩
   ·exact .inl h1
   ·obtain ⟨g1,g2,g3⟩:=D8.1 h3
    refine .inr ⟨j,h1,h2,D8.2 ⟨?_,g2,g3⟩⟩
    rcases Nat.lt_or_ge i j with h5 | h5
    ·exact h5
    ·have:j=i:=by omega
     subst this
     exact absurd ⟨k,hk,h2⟩ hown⟩,hμ.one⟩
  have:=hw.2 _ key
  omega
end
theorem A6f {φ:List Int} {v:Nat} (hv:Nx n (frG L n φ) v):v=0:=by
 obtain ⟨⟨μ,hμ,e⟩,_⟩:=hv
 rw [←e]
 unfold Gq
 rw [Ef (q:=fun _=>false) fun k hk=>by
  rcases hμ.own k hk with h1 | ⟨j,h1,_,h3⟩
  ·rw [h1];rfl
  ·have:=(D8.1 h3).1
   omega,Ti]
end
end Go.Proofs.Ytpfikenknmlajaa.Ax
namespace Go.Proofs.Ytpfikenknmlajaa.Ax
open Go Classical
def NxR (n i:Nat) (φ next:List Int):Prop:=next.length=n ∧ ∀j,j<i→(nth next j = -1 ∧ ∀k,k<n→nth φ k≠(j:Int)) ∨ ∃k:Nat,k<n∧nth next j=(k:Int)∧nth φ k=(j:Int)
def D0 (next:List Int):Nat→Int→List Int
 | 0,_=>[]
 | k+1,y=>if y<0 then [] else y::D0 next k (nth next y.toNat)
theorem Rx {a b:Nat} (h:a≠b):¬((a:Int)==(b:Int))=true:=fun hh=>h (by have:=eq_of_beq hh;omega)
def upC (n:Nat) (L:Nat→Nat→Bool) (y:Nat):Nat:=Bz n fun z=>L y z
structure StrO (n:Nat) (L:Nat→Nat→Bool):Prop where
 irr : ∀x,x<n→L x x=false
 tr : ∀x y z,x<n→y<n→z<n→L x y=true→L y z=true→L x z=true
section
variable {n:Nat} {L:Nat→Nat→Bool}
theorem StrO.up_lt (h:StrO n L) {x y:Nat} (hx:x<n) (hy:y<n) (hL:L x y=true):upC n L y<upC n L x:=by
 have h1:=Gx n (fun z=>L x z) fun z=>L y z
 have h2:Bz n (fun z=>L y z)≤Bz n fun z=>L x z&&L y z:=Ir fun z hz hl=>by
  rw [h.tr x y z hx hy hz hL hl,hl];rfl
 have h3:=N3 (n:=n) (p:=fun z=>L x z && !L y z) hy (by rw [hL,h.irr y hy];rfl)
 unfold upC
 omega
theorem StrO.dn_lt (h:StrO n L) {x y:Nat} (hx:x<n) (hy:y<n) (hL:L x y=true):Bz n (fun z=>L z x)<Bz n fun z=>L z y:=by
 have h1:=Gx n (fun z=>L z y) fun z=>L z x
 have h2:Bz n (fun z=>L z x)≤Bz n fun z=>L z y&&L z x:=Ir fun z hz hl=>by
  rw [h.tr z x y hz hx hy hl hL,hl];rfl
 have h3:=N3 (n:=n) (p:=fun z=>L z y && !L z x) hx (by rw [hL,h.irr x hx];rfl)
 omega
variable {φ next:List Int} (hL:StrO n L) (hφ:MtOne n L φ) (hN:NxR n n φ next)
include hφ hN
theorem Ava {j k:Nat} (hj:j<n) (hk:k<n):nth next j=(k:Int)↔nth φ k=(j:Int):=by
 rcases hN.2 j hj with ⟨h1,h2⟩ | ⟨k',h1,h2,h3⟩
 ·rw [h1]
  exact ⟨fun h=>by omega,fun h=>absurd h (h2 k hk)⟩
 ·rw [h2]
  constructor
  ·intro h
   have:k'=k:=by omega
   rw [←this];exact h3
  ·intro h
   rw [hφ.inj h1 hk h3 h]
theorem Asm {j:Nat} (hj:j<n):nth next j = -1 ∨ ∃k:Nat,k<n∧nth next j=(k:Int)∧L j k=true:=by
 rcases hN.2 j hj with ⟨h1,_⟩ | ⟨k,h1,h2,h3⟩
 ·exact .inl h1
 ·rcases hφ.own k h1 with h4 | ⟨j',_,h5,h6⟩
  ·omega
  ·have:j'=j:=by omega
   subst this
   exact .inr ⟨k,h1,h2,h6⟩
include hL
theorem Ayf : ∀(k:Nat) (y:Nat),y<n→upC n L y<k → ∀m,k≤m→D0 next m (y:Int)=D0 next k (y:Int):=by
 intro k
 induction k with
 | zero=>intro y _ h;omega
 | succ k ih=>
   intro y hy hu m hm
   obtain ⟨m',rfl⟩ : ∃m',m=m'+1:=⟨m-1,by omega⟩
   simp only [D0]
   rw [if_neg (by omega),if_neg (by omega),tna0]
   congr 1
   rcases Asm hφ hN hy with h1 | ⟨z,hz,h1,h2⟩
   ·rw [h1]
    have e : ∀j,D0 next j (-1)=[]:=fun j=>by cases j with
     | zero=>rfl
     | succ j=>simp [D0]
    rw [e,e]
   ·rw [h1]
    have:=hL.up_lt hy hz h2
    exact ih z hz (by omega) m' (by omega)
theorem Hn {y:Nat} (hy:y<n):D0 next (n+1) (y:Int)=(y:Int)::(if nth next y<0 then [] else D0 next (n+1) (nth next y)):=by
 show (if (y:Int)<0 then [] else (y:Int)::D0 next n (nth next (y:Int).toNat))=_
 rw [if_neg (by omega),tna0]
 congr 1
 rcases Asm hφ hN hy with h1 | ⟨z,hz,h1,h2⟩
 ·rw [h1,if_pos (by omega)]
  cases n with
  | zero=>rfl
  | succ n=>simp [D0]
 ·rw [h1,if_neg (by omega)]
  have h3:=hL.up_lt hy hz h2
  have h4:upC n L y≤n:=Ac3 _ _
  exact (Ayf hL hφ hN n z hz (by omega) (n+1) (by omega)).symm
theorem Yo {P:Nat→Prop} (h1 : ∀y,y<n→nth next y<0→P y) (h2 : ∀y z,y<n→z<n→nth next y=(z:Int)→L y z=true→P z→P y) : ∀y,y<n→P y:=by
 have key : ∀k y,y<n→upC n L y<k→P y:=by
  intro k
  induction k with
  | zero=>intro y _ h;omega
  | succ k ih=>
    intro y hy hu
    rcases Asm hφ hN hy with e | ⟨z,hz,e,hl⟩
    ·exact h1 y hy (by omega)
    ·exact h2 y z hy hz e hl (ih z hz (by have:=hL.up_lt hy hz hl;omega))
 exact fun y hy=>key (upC n L y+1) y hy (by omega)
theorem Awi : ∀y,y<n→(∀v∈D0 next (n+1) (y:Int),∃z:Nat,z<n∧v=(z:Int)∧(z=y∨L y z=true))∧(D0 next (n+1) (y:Int)).Pairwise (fun u v=>L u.toNat v.toNat=true):=by
 refine Yo hL hφ hN (fun y hy h=> ?_) fun y z hy hz e hl ih=> ?_
 ·rw [Hn hL hφ hN hy,if_pos h]
  refine ⟨fun v hv=>⟨y,hy,List.mem_singleton.1 hv,.inl rfl⟩,by simp⟩
 ·rw [Hn hL hφ hN hy,e,if_neg (by omega)]
  have hm : ∀v∈D0 next (n+1) (z:Int),∃w:Nat,w<n∧v=(w:Int)∧L y w=true:=fun v hv=>by
   obtain ⟨w,hw,ev,hc⟩:=ih.1 v hv
   refine ⟨w,hw,ev,?_⟩
   rcases hc with hc | hc
   ·rw [hc];exact hl
   ·exact hL.tr y z w hy hz hw hl hc
  refine ⟨fun v hv=> ?_,List.pairwise_cons.2 ⟨fun v hv=> ?_,ih.2⟩⟩
  ·rcases List.mem_cons.1 hv with hv | hv
   ·exact ⟨y,hy,hv,.inl rfl⟩
   ·obtain ⟨w,hw,ev,hc⟩:=hm v hv
    exact ⟨w,hw,ev,.inr hc⟩
  ·obtain ⟨w,hw,ev,hc⟩:=hm v hv
   rw [ev,tna0,tna0];exact hc
theorem Aj1 {y:Nat} (hy:y<n):(D0 next (n+1) (y:Int)).length≤n:=by
 have key : ∀k y,y<n→upC n L y<k→(D0 next (n+1) (y:Int)).length≤upC n L y+1:=by
  intro k
  induction k with
  | zero=>intro y _ h;omega
  | succ k ih=>
    intro y hy hu
    rw [Hn hL hφ hN hy]
    rcases Asm hφ hN hy with e | ⟨z,hz,e,hl⟩
    ·rw [if_pos (by omega)];simp
    ·rw [e,if_neg (by omega)]
     have h1:=hL.up_lt hy hz hl
     have:=ih z hz (by omega)
     simp only [List.length_cons];omega
 have h1:=key (upC n L y+1) y hy (by omega)
 have h2:upC n L y<n:=by
  unfold upC
  have:=Aiq n fun z=>L y z
  have:=N3 (n:=n) (p:=fun z => !L y z) hy (by rw [hL.irr y hy];rfl)
  omega
 omega
theorem Ayg {x:Nat} (_hx:x<n) (hr:nth φ x = -1) : ∀y,y<n→(D0 next (n+1) (y:Int)).count (x:Int)=if y=x then 1 else 0:=by
 refine Yo hL hφ hN (fun y hy h=> ?_) fun y z hy hz e hl ih=> ?_
 ·rw [Hn hL hφ hN hy,if_pos h,List.count_cons]
  by_cases hyx:y=x
  ·rw [if_pos hyx,hyx];simp
  ·rw [if_neg hyx]
   rw [if_neg (Rx hyx)];rfl
 ·rw [Hn hL hφ hN hy,e,if_neg (by omega),List.count_cons,ih]
  have hzx:z≠x:=fun hh=>by
   have:=(Ava hφ hN hy hz).1 e
   rw [hh,hr] at this
   omega
  rw [if_neg hzx]
  by_cases hyx:y=x
  ·rw [if_pos hyx,hyx];simp
  ·rw [if_neg hyx,if_neg (Rx hyx)]
theorem Ayp {x j:Nat} (hx:x<n) (hj:j<n) (hr:nth φ x=(j:Int)) : ∀y,y<n→(D0 next (n+1) (y:Int)).count (x:Int)=(if y=x then 1 else 0)+(D0 next (n+1) (y:Int)).count (j:Int):=by
 have hjx:j≠x:=fun hh=>by
  rcases hφ.own x hx with h | ⟨j',_,h2,h3⟩
  ·omega
  ·have:j'=x:=by omega
   rw [this,hL.irr x hx] at h3;cases h3
 refine Yo hL hφ hN (fun y hy h=> ?_) fun y z hy hz e hl ih=> ?_
 ·have hyj:y≠j:=fun hh=>by
   have:=(Ava hφ hN hj hx).2 hr
   rw [←hh] at this
   omega
  rw [Hn hL hφ hN hy,if_pos h,List.count_cons,List.count_cons]
  rw [if_neg (Rx hyj)]
  by_cases hyx:y=x
  ·rw [if_pos hyx,hyx];simp
  ·rw [if_neg hyx,if_neg (Rx hyx)];rfl
 ·rw [Hn hL hφ hN hy,e,if_neg (by omega),List.count_cons,List.count_cons,ih]
  have hiff:z=x↔y=j:=by
   constructor
   ·intro h
    rw [h] at e
    have:=(Ava hφ hN hy hx).1 e
    omega
   ·intro h
    rw [h] at e
    have:=(Ava hφ hN hj hx).2 hr
    omega
  by_cases hyj:y=j
  ·rw [if_pos (hiff.2 hyj),hyj,if_neg hjx,if_neg (Rx hjx)];simp;omega
  ·rw [if_neg (fun h=>hyj (hiff.1 h)),if_neg (Rx hyj)]
   by_cases hyx:y=x
   ·rw [if_pos hyx,hyx];simp;omega
   ·rw [if_neg hyx,if_neg (Rx hyx)];omega
omit hL hN in
theorem A49 (x:Nat) (hx:x<n):nth φ x = -1 ∨ ∃j:Nat,j<n∧nth φ x=(j:Int)∧L j x=true:=by
 rcases hφ.own x hx with h | ⟨j,h1,h2,h3⟩
 ·exact .inl h
 ·exact .inr ⟨j,h1,h2,h3⟩
theorem Aot {x:Nat} (hx:x<n):((((List.range n).filter fun y=>decide (nth φ y = -1)).map fun y:Nat=>D0 next (n+1) (y:Int)).flatten).count (x:Int)=1:=by
 have cnt : ∀(R:List Nat) (x:Nat),((R.map fun y:Nat=>D0 next (n+1) (y:Int)).flatten).count (x:Int)=(R.map fun y:Nat=>(D0 next (n+1) (y:Int)).count (x:Int)).sum:=by
  intro R x
  induction R with
  | nil=>rfl
  | cons r R ih=>simp only [List.map_cons,List.flatten_cons,List.count_append,List.sum_cons,ih]
 have key : ∀k x,x<n→Bz n (fun z=>L z x)<k→((((List.range n).filter fun y=>decide (nth φ y = -1)).map fun y:Nat=>D0 next (n+1) (y:Int)).flatten).count (x:Int)=1:=by
  intro k
  induction k with
  | zero=>intro x _ h;omega
  | succ k ih=>
    intro x hx hk
    rw [cnt]
    rcases A49 hφ x hx with hr | ⟨j,hj,hr,hl⟩
    ·have e:(((List.range n).filter fun y=>decide (nth φ y = -1)).map fun y:Nat=>(D0 next (n+1) (y:Int)).count (x:Int))=((List.range n).filter fun y=>decide (nth φ y = -1)).map fun y:Nat=>if y=x then 1 else 0:=by
      refine List.map_congr_left fun y hy=> ?_
      exact Ayg hL hφ hN hx hr y (List.mem_range.1 (List.mem_filter.1 hy).1)
     rw [e]
     have key2 : ∀(R:List Nat),R.Nodup→x∈R→(R.map fun y:Nat=>if y=x then 1 else 0).sum=1:=by
      intro R
      induction R with
      | nil=>intro _ h;cases h
      | cons r R ih2=>
        intro hd hm
        obtain ⟨d1,d2⟩:=List.nodup_cons.1 hd
        simp only [List.map_cons,List.sum_cons]
        by_cases hrx:r=x
        ·have h0 : ∀(R:List Nat),x∉R→(R.map fun y:Nat=>if y=x then 1 else 0).sum=0:=by
          intro R
          induction R with
          | nil=>intro _;rfl
          | cons r R ih3=>
            intro hn
            simp only [List.map_cons,List.sum_cons]
            rw [if_neg (fun hh=>hn (by rw [hh];simp)),ih3 (fun hh=>hn (by simp [hh]))]
         rw [if_pos hrx,h0 R (by rw [←hrx];exact d1)]
        ·rw [if_neg hrx,ih2 d2 (by
          rcases List.mem_cons.1 hm with h | h
          ·exact absurd h.symm hrx
          ·exact h)]
     exact key2 _ (List.nodup_range.filter _) (List.mem_filter.2 ⟨List.mem_range.2 hx,dtr0 hr⟩)
    ·have e:(((List.range n).filter fun y=>decide (nth φ y = -1)).map fun y:Nat=>(D0 next (n+1) (y:Int)).count (x:Int))=((List.range n).filter fun y=>decide (nth φ y = -1)).map fun y:Nat=>(D0 next (n+1) (y:Int)).count (j:Int):=by
      refine List.map_congr_left fun y hy=> ?_
      obtain ⟨y1,y2⟩:=List.mem_filter.1 hy
      rw [Ayp hL hφ hN hx hj hr y (List.mem_range.1 y1),if_neg (fun hh=>by
       have:=of_decide_eq_true y2
       rw [hh,hr] at this
       omega),Nat.zero_add]
     rw [e,←cnt]
     exact ih j hj (by have:=hL.dn_lt hj hx hl;omega)
 exact key _ x hx (Nat.lt_succ_self _)
end
end Go.Proofs.Ytpfikenknmlajaa.Ax
namespace Go.Proofs.Ytpfikenknmlajaa.Ax
open Go Classical
def A8 (f:Nat→Nat→Bool) (x y:Nat):Bool:=decide (x≠y)&&f x y
theorem Amp {n:Nat} {f:Nat→Nat→Bool} (h:Ord n f):StrO n (A8 f):=by
 refine ⟨fun x _=>by simp [A8],fun x y z hx hy hz h1 h2=> ?_⟩
 unfold A8 at h1 h2 ⊢
 rw [Bool.and_eq_true,decide_eq_true_eq] at h1 h2 ⊢
 refine ⟨fun e=> ?_,h.trans x y z hx hy hz h1.2 h2.2⟩
 subst e
 exact h1.1 (h.anti x y hx hy h1.2 h2.2)
def Led (n:Nat) (φ:List Int) (led:List Bool):Prop:=led.length=n ∧ ∀k,k<n→(nth led k=true↔nth φ k ≠ -1)
theorem Led.no {n:Nat} {φ:List Int} {led:List Bool} (h:Led n φ led) {k:Nat} (hk:k<n):nth led k=false↔nth φ k = -1:=by
 cases hb:nth led k with
 | true=>exact ⟨fun hh=>(by cases hh),fun hh=>absurd hh ((h.2 k hk).1 hb)⟩
 | false=>
   refine ⟨fun _=>Classical.byContradiction fun hc=> ?_,fun _=>rfl⟩
   rw [(h.2 k hk).2 hc] at hb;cases hb
theorem Led.put {n:Nat} {φ:List Int} {led:List Bool} (h:Led n φ led) (hφ:φ.length=n) {y i:Nat}:Led n (φ.set y (i:Int)) (led.set y true):=by
 refine ⟨by rw [List.length_set];exact h.1,fun k hk=> ?_⟩
 have:=h.1
 rw [Bm _ _ _ _ (by omega),Bm _ _ _ _ (by omega)]
 by_cases e:y=k
 ·rw [if_pos e,if_pos e]
  exact ⟨fun _=>by omega,fun _=>rfl⟩
 ·rw [if_neg e,if_neg e];exact h.2 k hk
theorem Ax4 {s1 s2:SPoset→Int→List Bool→List Bool→List Int→Option (Bool×List Bool×List Int)} (h : ∀p x t s m,LeO (s1 p x t s m) (s2 p x t s m)) (p:SPoset) (x:Int) (t s:List Bool) (m:List Int):LeO (D4 s1 p x t s m) (D4 s2 p x t s m):=by
 unfold D4
 refine LeO.bind (LeO.loop (fun q=> ?_) _) fun _=>LeO.refl _
 obtain ⟨a,b,c⟩:=q
 unfold Bs
 dsimp only
 refine LeO.ite (LeO.bind (LeO.refl _) fun t=> ?_) (LeO.refl _)
 cases t with
 | inl _=>exact LeO.refl _
 | inr _=>exact LeO.ask (LeO.ask (LeO.ite (LeO.refl _) (LeO.ask (LeO.bind (h _ _ _ _ _) fun _=>LeO.refl _))))
theorem A3l (p:SPoset) (x:Int) (t s:List Bool) (m:List Int):upO fun k=>Bg k p x t s m:=by
 have step : ∀k p x t s m,LeO (Bg k p x t s m) (Bg (k+1) p x t s m):=by
  intro k
  induction k with
  | zero=>intro p x t s m v e;cases e
  | succ k ih=>intro p x t s m;exact Ax4 ih p x t s m
 exact Arp fun k=>step k p x t s m
section
variable {p:SPoset} {n i0:Nat} {φ:List Int} {tk:List Bool} (hs:small p) (hn:n≤1000) (hP:p.Below.length=n) (ht:Led n φ tk)
include hs hn hP ht
theorem Axq {g:Nat} {j k:Nat} {s:List Bool} {m:List Int} (_hj:j<n) (hij:i0≤j) (hk:k<n) (hsl:s.length=n) (h:nth s k=true∨frG (A8 (below p.Below)) i0 φ j k=false):Bs (Bg g) p j tk ((k:Int),s,m)=some (.inl (((k+1:Nat):Int),s,m)):=by
 have htl:=ht.1
 unfold Bs
 dsimp only
 rw [if_pos (by omega),X1 hs j k (by omega)]
 simp only [obs0]
 by_cases hl:A8 (below p.Below) j k=true
 ·have hl':(decide (j≠k)&&below p.Below j k)=true:=hl
  rw [hl',if_pos rfl,Ae (by omega),tna0]
  by_cases htk:nth tk k=true
  ·rw [if_pos htk]
   simp only [obs0]
   rw [Ae (by unfold InI;omega)]
   rfl
  ·rw [if_neg htk,Ae (by omega)]
   have hf:frG (A8 (below p.Below)) i0 φ j k=true:=D8.2 ⟨hij,(ht.no hk).1 (by simpa using htk),hl⟩
   rcases h with h | h
   ·rw [if_pos h]
    simp only [obs0]
    rw [Ae (by unfold InI;omega)]
    rfl
   ·rw [hf] at h;cases h
 ·have hl':¬(decide (j≠k)&&below p.Below j k)=true:=hl
  rw [if_neg hl']
  simp only [obs0]
  rw [Ae (by unfold InI;omega)]
  rfl
theorem A45 {g:Nat} {j k:Nat} {s:List Bool} {m:List Int} (hk:k<n) (hsl:s.length=n) (hml:m.length=n) (hb:nth s k=false) (he:frG (A8 (below p.Below)) i0 φ j k=true):Bs (Bg g) p j tk ((k:Int),s,m)=(if nth m k<0 then some (.inr (.inl (s.set k true,m.set k (j:Int)))) else (Bg g p (nth m k) tk (s.set k true) m).bind fun (r,u,v)=>if r=true then ask (0≤(k:Int)∧(k:Int)<(v.length:Int))<|some (.inr (.inl (u,v.set k (j:Int)))) else some (.inl (((k+1:Nat):Int),u,v))):=by
 have htl:=ht.1
 obtain ⟨e1,e2,e3⟩:=D8.1 he
 have e3':(decide (j≠k)&&below p.Below j k)=true:=e3
 have htk:=(ht.no hk).2 e2
 unfold Bs
 dsimp only
 rw [if_pos (by omega),X1 hs j k (by omega)]
 simp only [obs0]
 rw [e3',if_pos rfl,Ae (by omega),tna0,if_neg (by simp [htk]),Ae (by omega),if_neg (by simp [hb])]
 simp only [obs0]
 rw [Ae (by omega),Ae (by omega),Ae (by omega),Ae (by omega)]
 by_cases h0:nth m k<0
 ·rw [if_pos h0,if_pos h0]
 ·rw [if_neg h0,if_neg h0]
  congr 1
  funext q
  obtain ⟨r,u,v⟩:=q
  dsimp only
  by_cases hr:r=true
  ·rw [if_pos hr,if_pos hr]
  ·rw [if_neg hr,if_neg hr,Ae (by unfold InI;omega)]
   rfl
theorem A19 : ∀(u:Nat) (j:Nat) (s:List Bool) (m:List Int),i0≤j→j<n→s.length=n→MtOk n (frG (A8 (below p.Below)) i0 φ) m→Q9 n s≤u →
  ∃o s' m',Bg (u+1) p j tk s m=some (o,s',m')∧TryL n (frG (A8 (below p.Below)) i0 φ) 0 j s m o s' m':=by
 intro u
 induction u using Nat.strongRecOn with
 | ind u ihu=>
   intro i s m hi0 hi hs' hm hu
   have inner : ∀d k (s:List Bool),k+d=n→s.length=n→Q9 n s≤u → ∃o s' m',Aj (Bs (Bg u) p i tk) ((k:Int),s,m)=some (if o=true then .inl (s',m') else .inr (s',m'))∧TryL n (frG (A8 (below p.Below)) i0 φ) k i s m o s' m':=by
    intro d
    induction d with
    | zero=>
      intro k s hk hsl hu
      have:k=n:=by omega
      subst this
      refine ⟨false,s,m,D2 ?_,.done i s m⟩
      unfold Bs
      dsimp only
      rw [if_neg (by omega)]
      rfl
    | succ d ih=>
      intro k s hk hsl hu
      have hml:=hm.len
      have skip:(nth s k=true∨frG (A8 (below p.Below)) i0 φ i k=false) → ∃o s' m',Aj (Bs (Bg u) p i tk) ((k:Int),s,m)=some (if o=true then .inl (s',m') else .inr (s',m'))∧TryL n (frG (A8 (below p.Below)) i0 φ) k i s m o s' m':=by
       intro hsk
       obtain ⟨o,s',m',e,t⟩:=ih (k+1) s (by omega) hsl hu
       refine ⟨o,s',m',?_,.skip (by omega) hsk t⟩
       rw [F7 (Axq hs hn hP ht hi hi0 (by omega) hsl hsk)]
       exact e
      cases hb:nth s k with
      | true=>exact skip (.inl hb)
      | false=>
        cases he:frG (A8 (below p.Below)) i0 φ i k with
        | false=>exact skip (.inr he)
        | true=>
          have hset:(s.set k true).length=n:=by rw [List.length_set];exact hsl
          have hun:=Apj hsl (show k<n by omega) hb
          have go:=A45 (g:=u) hs hn hP ht (show k<n by omega) hsl hml hb he
          rcases hm.own k (by omega) with hf | ⟨j,hj,hf,hjE⟩
          ·refine ⟨true,s.set k true,m.set k (i:Int),D2 ?_,.free (by omega) hb he hf⟩
           rw [go,if_pos (by omega)]
           rfl
          ·obtain ⟨v,rfl⟩ : ∃v,u=v+1:=⟨u-1,by omega⟩
           obtain ⟨o1,s1,m1,e1,t1⟩:=ihu v (by omega) j (s.set k true) m (D8.1 hjE).1 hj hset hm (by omega)
           have q:=t1.out hset hm hj
           rw [if_neg (by omega),hf,e1] at go
           simp only [obs0] at go
           cases o1 with
           | true=>
             have hm1:=q.2.2.1.len
             rw [if_pos rfl,Ae (by omega)] at go
             exact ⟨true,s1,m1.set k (i:Int),D2 go,.push (by omega) hb he hf t1⟩
           | false=>
             have em:=q.2.2.2.2.2 rfl
             subst em
             rw [if_neg (by simp)] at go
             have hu1:Q9 n s1≤v+1:=by
              have:=Alc (n:=n) (s:=s.set k true) (s':=s1) q.2.1
              omega
             obtain ⟨o,s',m',e,t⟩:=ih (k+1) s1 (by omega) q.1 hu1
             refine ⟨o,s',m',?_,.back (by omega) hb he hf t1 t⟩
             rw [F7 go]
             exact e
   obtain ⟨o,s',m',e,t⟩:=inner n 0 s (by omega) hs' hu
   refine ⟨o,s',m',?_,t⟩
   show D4 (Bg u) p i tk s m=_
   unfold D4
   have e':Aj (Bs (Bg u) p i tk) (0,s,m)=_:=e
   rw [e']
   cases o<;>rfl
theorem Ali (hi:i0≤n) : ∃v:Nat,Fj p i0 tk=some (v:Int)∧Nx n (frG (A8 (below p.Below)) i0 φ) v:=by
 have hL:=Ao
 unfold Fj
 have k1:=Az (body:=Cv p i0 tk) (fun i=>((i:Int),List.replicate i (-1:Int))) n (List.replicate n (-1)) (fun i hi=>by
  unfold Cv
  dsimp only
  rw [if_pos (by omega),Ae (by simp;omega),Ae (by unfold InI;omega),List.replicate_succ']
  rfl) (by
  unfold Cv
  dsimp only
  rw [if_neg (by omega)])
 have k1':Aj (Cv p i0 tk) (0,Ar Int)=some (List.replicate n (-1)):=k1
 rw [k1']
 simp only [obs0]
 have st:MtInv n (frG (A8 (below p.Below)) i0 φ) i0 (List.replicate n (-1)) (fun _=>false) fun _=>false:=by
  have h0:=MtInv.start n (frG (A8 (below p.Below)) i0 φ)
  refine ⟨h0.ok,fun j=> ?_,(fun k _ h=>nomatch h),fun j hj _ k hk he=> ?_⟩
  ·rw [h0.cnt j,if_neg (by omega),if_neg (by simp)]
  ·have:=(D8.1 he).1;omega
 obtain ⟨t,e,v,hv,h2⟩:=Hq (body:=E4 p tk) (fun s => ∃(i:Nat) (S D:Nat→Bool),s.1=(i:Int)∧i0≤i∧i≤n∧MtInv n (frG (A8 (below p.Below)) i0 φ) i s.2.2 S D∧(∀j,i≤j→S j=false)∧s.2.1=((Bz n S:Nat):Int)) (fun s=>n-s.1.toNat) (fun t => ∃v:Nat,t=(v:Int)∧Nx n (frG (A8 (below p.Below)) i0 φ) v) (by
  rintro ⟨x,c,m⟩ ⟨i,S,D,rfl,hi0,hi,hM,hS,hw⟩
  dsimp only at hM hw
  have hcn:=Ac3 n S
  unfold E4
  dsimp only
  by_cases hin:i<n
  ·obtain ⟨o,s',m',e,t⟩:=A19 hs hn hP ht (Q9 n (List.replicate n false)) i (List.replicate n false) m hi0 hin (by simp) hM.ok (Nat.le_refl _)
   have e2:(Afn fun k=>Bg k p i tk (List.replicate n false) m)=some (o,s',m'):=At4 (A3l p i tk (List.replicate n false) m) e
   obtain ⟨D',hM'⟩:=hM.step hin t
   rw [if_pos (by omega),Ae (by omega),tna0,hP,e2]
   simp only [obs0]
   have hS' : ∀j,i+1≤j→(if j=i then o else S j)=false:=fun j hj=>by rw [if_neg (by omega)];exact hS j (by omega)
   cases o with
   | true=>
     have hc:Bz n (fun j=>if j=i then true else S j)=Bz n S+1:=Kr hin (hS i (Nat.le_refl _)) (by simp) fun j hj hne=>by rw [if_neg hne]
     rw [if_pos rfl,Ae (by unfold InI;omega),Ae (by unfold InI;omega)]
     exact .inl ⟨_,rfl,⟨i+1,_,D',rfl,by omega,hin,hM',hS',by dsimp only;omega⟩,by dsimp only;omega⟩
   | false=>
     have hc:Bz n (fun j=>if j=i then false else S j)=Bz n S:=Ef fun j hj=>by
      by_cases h:j=i
      ·rw [if_pos h,h];exact (hS i (Nat.le_refl _)).symm
      ·rw [if_neg h]
     rw [if_neg (by simp),Ae (by unfold InI;omega)]
     exact .inl ⟨_,rfl,⟨i+1,_,D',rfl,by omega,hin,hM',hS',by dsimp only;omega⟩,by dsimp only;omega⟩
  ·have:i=n:=by omega
   subst this
   rw [if_neg (by omega)]
   exact .inr ⟨_,rfl,_,hw,hM.nu⟩) (s:=((i0:Int),(0:Int),List.replicate n (-1))) ⟨i0,fun _=>false,fun _=>false,rfl,Nat.le_refl _,hi,st,fun _ _=>rfl,by rw [Ti];rfl⟩
 rw [e]
 exact ⟨v,congrArg some hv,h2⟩
end
def A0g (n i:Nat) (φ next:List Int):Prop:=NxR n i φ next ∧ ∀j,i≤j→j<n→nth next j = -2
section
variable {n:Nat} {f:Nat→Nat→Bool} (hn:n≤1000)
include hn
theorem Aum {i:Nat} {φ next:List Int} (hi:i≤n) (hφ:Gave n (A8 f) i φ) (hN:A0g n i φ next) {v:Nat} (hv:Nx n (frG (A8 f) i φ) v):Fk (tab n f) next=some ((n:Int)-((Gq n φ+v:Nat):Int)):=by
 have hnl:=hN.1.1
 unfold Fk
 obtain ⟨m,S,D,e,hM⟩:=Aoa (n:=n) (E:=fxG (A8 f) i φ) (by omega) (less:=fun w_0 w_1=>Fs w_0 w_1 next (tab n f)) (fun j k hj hk=>by
  unfold Fs
  rw [Ae (by omega),tna0]
  unfold fxG
  by_cases hji:j<i
  ·have hne:nth next j ≠ -2:=by
    rcases hN.1.2 j hji with ⟨h1,_⟩ | ⟨k',_,h1,_⟩<;>omega
   rw [if_pos hne,Ae (by omega),if_pos hji]
   congr 1
   have hiff:nth next j=(k:Int)↔nth φ k=(j:Int):=by
    rcases hN.1.2 j hji with ⟨h1,h2⟩ | ⟨k',h1,h2,h3⟩
    ·rw [h1]
     exact ⟨fun h=>by omega,fun h=>absurd h (h2 k hk)⟩
    ·rw [h2]
     constructor
     ·intro h
      have:k'=k:=by omega
      rw [←this];exact h3
     ·intro h
      rw [hφ.one.inj h1 hk h3 h]
   rw [Bool.eq_iff_iff,decide_eq_true_eq,beq_iff_eq]
   exact hiff
  ·rw [if_neg (fun hc=>hc (hN.2 j (by omega) hj)),if_neg hji,M6 n f j k hj hk]
   rfl)
 rw [Bw,e]
 have:=hM.nu.uniq (A1v hi hφ hv)
 rw [this]
 rfl
end
def Amb (n:Nat) (L:Nat→Nat→Bool) (i:Nat) (φ:List Int) (y:Nat):Prop:=nth φ y = -1∧L i y=true ∧ ∀v v',Nx n (frG L i φ) v→Nx n (frG L (i+1) (φ.set y (i:Int))) v'→v'+1=v
structure StepCh (n:Nat) (L:Nat→Nat→Bool) (i:Nat) (φ:List Int) (v0:Nat):Prop where
 gv:Gave n L i φ
 nu : ∀v,Nx n (frG L i φ) v→Gq n φ+v=v0
section
variable {n:Nat} {L:Nat→Nat→Bool}
theorem Am1 {i:Nat} {φ:List Int} {v0:Nat} (h:StepCh n L i φ v0) (hi:i<n) {y:Nat} (hy:y<n) (hc:Amb n L i φ y):StepCh n L (i+1) (φ.set y (i:Int)) v0:=by
 obtain ⟨g1,g2⟩:=Au4 hi h.gv hy hc.1 hc.2.1
 refine ⟨g1,fun v' hv'=> ?_⟩
 obtain ⟨v,hv⟩:=Arv n (frG L i φ)
 have:=h.nu v hv
 have:=hc.2.2 v v' hv hv'
 omega
theorem Ak3 {i:Nat} {φ:List Int} {v0:Nat} (h:StepCh n L i φ v0) (hi:i<n) (hc : ∀y,y<n→¬Amb n L i φ y):StepCh n L (i+1) φ v0:=by
 refine ⟨A1k h.gv,fun w hw=> ?_⟩
 obtain ⟨v,hv⟩:=Arv n (frG L i φ)
 have h1:=h.nu v hv
 rcases (A5s hi h.gv hv hw).2 with e | ⟨y,hy,y1,y2,y3⟩
 ·omega
 ·refine absurd ⟨y1,y2,fun v2 v' hv2 hv'=> ?_⟩ (hc y hy)
  rw [hv2.uniq hv]
  exact y3 v' hv'
theorem A4c {i:Nat} {φ:List Int} {y v v':Nat} (h1:nth φ y = -1) (h2:L i y=true) (hv:Nx n (frG L i φ) v) (hv':Nx n (frG L (i+1) (φ.set y (i:Int))) v'):Amb n L i φ y↔v'+1=v:=
 ⟨fun h=>h.2.2 v v' hv hv',fun h=>⟨h1,h2,fun u u' hu hu'=>by rw [hu.uniq hv,hu'.uniq hv'];exact h⟩⟩
inductive PickR (n:Nat) (L:Nat→Nat→Bool) (i:Nat) (φ:List Int):Option Nat→Prop
 | one {y:Nat} (hy:y<n) (hc:Amb n L i φ y) (hf : ∀z,z<y→¬Amb n L i φ z):PickR n L i φ (some y)
 | none (hc : ∀y,y<n→¬Amb n L i φ y):PickR n L i φ none
theorem PickR.uniq {i:Nat} {φ:List Int} {a b:Option Nat} (h:PickR n L i φ a) (h':PickR n L i φ b):a=b:=by
 cases h with
 | one hy hc hf=>
   cases h' with
   | one hy' hc' hf'=>
     rename_i y y'
     rcases Nat.lt_trichotomy y y' with h | h | h
     ·exact absurd hc (hf' y h)
     ·rw [h]
     ·exact absurd hc' (hf y' h)
   | none hc'=>exact absurd hc (hc' _ hy)
 | none hc=>
   cases h' with
   | one hy' hc' hf'=>exact absurd hc' (hc _ hy')
   | none _=>rfl
noncomputable def A3e (n:Nat) (L:Nat→Nat→Bool) (i:Nat) (φ:List Int):Option Nat:=if h : ∃a,PickR n L i φ a then Classical.choose h else none
theorem Awh {i:Nat} {φ:List Int} {a:Option Nat} (h:PickR n L i φ a):A3e n L i φ=a:=by
 unfold A3e
 rw [dif_pos ⟨a,h⟩]
 exact (Classical.choose_spec (⟨a,h⟩ : ∃a,PickR n L i φ a)).uniq h
noncomputable def Nw (n:Nat) (L:Nat→Nat→Bool):Nat→List Int
 | 0=>List.replicate n (-1)
 | i+1=>match A3e n L i (Nw n L i) with
   | some y=>(Nw n L i).set y (i:Int)
   | none=>Nw n L i
theorem A5l {φ a b:List Int} (hφ:MtOne n L φ) (ha:NxR n n φ a) (hb:NxR n n φ b):a=b:=by
 refine Px (by rw [ha.1,hb.1]) fun j hj=> ?_
 rw [ha.1] at hj
 rcases ha.2 j hj with ⟨h1,h2⟩ | ⟨k,h1,h2,h3⟩
 ·rcases hb.2 j hj with ⟨g1,_⟩ | ⟨k',g1,_,g3⟩
  ·rw [h1,g1]
  ·exact absurd g3 (h2 k' g1)
 ·rw [h2]
  exact ((Ava hφ hb hj h1).2 h3).symm
theorem Axm {i y:Nat} {φ next:List Int} (hφl:φ.length=n) (_hg:Gave n L i φ) (h:NxR n i φ next) (hi:i<n) (hy:y<n) (hf:nth φ y = -1):NxR n (i+1) (φ.set y (i:Int)) (next.set i (y:Int)):=by
 have hl:=h.1
 refine ⟨by rw [List.length_set];exact hl,fun j hj=> ?_⟩
 rw [Bm _ _ _ _ (by omega)]
 have hat : ∀k,k<n→nth (φ.set y (i:Int)) k=if y=k then (i:Int) else nth φ k:=fun k hk=>Bm _ _ _ _ (by omega)
 by_cases e:i=j
 ·rw [if_pos e]
  exact .inr ⟨y,hy,rfl,by rw [hat y hy,if_pos rfl,e]⟩
 ·rw [if_neg e]
  rcases h.2 j (by omega) with ⟨h1,h2⟩ | ⟨k,h1,h2,h3⟩
  ·refine .inl ⟨h1,fun k hk=> ?_⟩
   rw [hat k hk]
   by_cases e2:y=k
   ·rw [if_pos e2];omega
   ·rw [if_neg e2];exact h2 k hk
  ·refine .inr ⟨k,h1,h2,?_⟩
   rw [hat k h1,if_neg (fun e2=>by rw [←e2,hf] at h3;omega)]
   exact h3
theorem Azb {i:Nat} {φ next:List Int} (hg:Gave n L i φ) (h:NxR n i φ next) (hi:i<n):NxR n (i+1) φ (next.set i (-1)):=by
 have hl:=h.1
 refine ⟨by rw [List.length_set];exact hl,fun j hj=> ?_⟩
 rw [Bm _ _ _ _ (by omega)]
 by_cases e:i=j
 ·rw [if_pos e]
  refine .inl ⟨rfl,fun k hk=> ?_⟩
  have:=hg.low k hk
  omega
 ·rw [if_neg e]
  exact h.2 j (by omega)
end
section
variable {p:SPoset} {n:Nat} (hs:small p) (h10:n≤10) (hP:p.Below.length=n)
include hs h10 hP
theorem Ax9 {i:Nat} {φ nx:List Int} {tk:List Bool} {v0:Nat} (hi:i<n) (hS:StepCh n (A8 (below p.Below)) i φ v0) (ht:Led n φ tk) (hnl:nx.length=n) {v:Nat} (hv:Nx n (frG (A8 (below p.Below)) i φ) v) :
  ∃a,PickR n (A8 (below p.Below)) i φ a∧Aj (C2 p i v) (0,nx.set i (-1),tk)=some (match a with | some y=>(nx.set i (y:Int),tk.set y true) | none=>(nx.set i (-1),tk)):=by
 have hφl:=hS.gv.one.len
 have htl:=ht.1
 obtain ⟨t,e,a,ha,ht'⟩:=Hq (body:=C2 p i v) (fun s => ∃y:Nat,s.1=(y:Int)∧y≤n∧((s.2=(nx.set i (-1),tk) ∧ ∀z,z<y→¬Amb n (A8 (below p.Below)) i φ z) ∨ ∃y0,y0<y∧PickR n (A8 (below p.Below)) i φ (some y0)∧s.2=(nx.set i (y0:Int),tk.set y0 true))) (fun s=>n-s.1.toNat) (fun t => ∃a,PickR n (A8 (below p.Below)) i φ a∧t=(match a with | some y=>(nx.set i (y:Int),tk.set y true) | none=>(nx.set i (-1),tk))) (by
  rintro ⟨x,s⟩ ⟨y,rfl,hy,hc⟩
  dsimp only at hc
  rcases hc with ⟨rfl,hno⟩ | ⟨y0,hy0,hp,rfl⟩
  ·unfold C2
   dsimp only
   by_cases hyn:y<n
   ·have hset:nth (nx.set i (-1)) i = -1:=by rw [Bm _ _ _ _ (by omega),if_pos rfl]
    rw [if_pos (by omega),Ae (by rw [List.length_set];omega),tna0,hset,if_pos (by omega)]
    simp only [obs0]
    rw [X1 hs i y (by omega)]
    simp only [obs0]
    have next:¬Amb n (A8 (below p.Below)) i φ y → ∀z,z<y+1→¬Amb n (A8 (below p.Below)) i φ z:=fun hn z hz=>by
     by_cases e:z=y
     ·subst e;exact hn
     ·exact hno z (by omega)
    by_cases hl:A8 (below p.Below) i y=true
    ·have hl':(decide (i≠y)&&below p.Below i y)=true:=hl
     rw [hl',if_pos rfl,Ae (by omega),tna0]
     by_cases htk:nth tk y=true
     ·rw [if_pos htk]
      simp only [obs0]
      rw [Ae (by unfold InI;omega)]
      exact .inl ⟨_,rfl,⟨y+1,rfl,by omega,.inl ⟨rfl,next fun hcp=>(ht.2 y hyn).1 htk hcp.1⟩⟩,by dsimp only;omega⟩
     ·have hf:=(ht.no hyn).1 (by simpa using htk)
      rw [if_neg htk]
      simp only [obs0]
      obtain ⟨v',e',hv'⟩:=Ali hs (by omega) hP (ht.put hφl (y:=y) (i:=i)) (i0:=i+1) (by omega)
      have hiff:=A4c hf hl hv hv'
      have hvn:v'≤n:=by
       obtain ⟨⟨m,_,em⟩,_⟩:=hv'
       rw [←em];exact Ac3 _ _
      rw [Ae (by omega),Ae (by unfold InI;omega),show ((i:Int)+1)=((i+1:Nat):Int) by omega,e']
      simp only [obs0]
      rw [Ae (by unfold InI;omega)]
      by_cases hq:v'+1=v
      ·rw [if_pos (by omega),Ae (by rw [List.length_set];omega),Ae (by unfold InI;omega),List.set_set]
       exact .inl ⟨_,rfl,⟨y+1,rfl,by omega,.inr ⟨y,by omega,.one hyn (hiff.2 hq) hno,rfl⟩⟩,by dsimp only;omega⟩
      ·rw [if_neg (by omega),Ae (by rw [List.length_set];omega),Ae (by unfold InI;omega),List.set_set]
       have eb:tk.set y false=tk:=by
        refine Px (by simp) fun k hk=> ?_
        rw [List.length_set] at hk
        rw [Bm _ _ _ _ hk]
        by_cases e:y=k
        ·rw [if_pos e,←e];simpa using (show nth tk y=false by simpa using htk).symm
        ·rw [if_neg e]
       rw [eb]
       exact .inl ⟨_,rfl,⟨y+1,rfl,by omega,.inl ⟨rfl,next fun hcp=>hq (hiff.1 hcp)⟩⟩,by dsimp only;omega⟩
    ·have hl':¬(decide (i≠y)&&below p.Below i y)=true:=hl
     rw [if_neg hl']
     simp only [obs0]
     rw [Ae (by unfold InI;omega)]
     exact .inl ⟨_,rfl,⟨y+1,rfl,by omega,.inl ⟨rfl,next fun hcp=>hl hcp.2.1⟩⟩,by dsimp only;omega⟩
   ·rw [if_neg (by omega)]
    simp only [obs0]
    exact .inr ⟨_,rfl,none,.none fun z hz=>hno z (by omega),rfl⟩
  ·unfold C2
   dsimp only
   by_cases hyn:y<n
   ·have hset:nth (nx.set i (y0:Int)) i=(y0:Int):=by rw [Bm _ _ _ _ (by omega),if_pos rfl]
    rw [if_pos (by omega),Ae (by rw [List.length_set];omega),tna0,hset,if_neg (by omega)]
    simp only [obs0]
    exact .inr ⟨_,rfl,some y0,hp,rfl⟩
   ·rw [if_neg (by omega)]
    simp only [obs0]
    exact .inr ⟨_,rfl,some y0,hp,rfl⟩) (s:=((0:Int),nx.set i (-1),tk)) ⟨0,rfl,Nat.zero_le _,.inl ⟨rfl,fun z hz=>by omega⟩⟩
 exact ⟨a,ha,by rw [e,ht']⟩
end
section
variable {f:Nat→Nat→Bool} {n:Nat} (h10:n≤10) (b:Bool)
include h10
theorem Axv {i:Nat} {φ nx:List Int} {tk:List Bool} {v0:Nat} (hi:i<n) (hS:StepCh n (A8 f) i φ v0) (ht:Led n φ tk) (hN:A0g n i φ nx) :
  ∃a w,PickR n (A8 f) i φ a∧Aj (C6 (tab n f,b) ((n:Int)-(v0:Int)) i) (0, -1,tk,nx)=some (match a with | some y=>((y:Int),tk.set y true,nx.set i (y:Int)) | none=>(-1,tk,nx.set i w)):=by
 have hφl:=hS.gv.one.len
 have htl:=ht.1
 have hnl:=hN.1.1
 have htb:=Bw n f
 obtain ⟨t,e,a,w,ha,ht'⟩:=Hq (body:=C6 (tab n f,b) ((n:Int)-(v0:Int)) i) (fun s => ∃y:Nat,s.1=(y:Int)∧y≤n∧((∃w,s.2=(-1,tk,nx.set i w) ∧ ∀z,z<y→¬Amb n (A8 f) i φ z) ∨ ∃y0,y0<y∧PickR n (A8 f) i φ (some y0)∧s.2=((y0:Int),tk.set y0 true,nx.set i (y0:Int)))) (fun s=>n-s.1.toNat) (fun t => ∃a w,PickR n (A8 f) i φ a∧t=(match a with | some y=>((y:Int),tk.set y true,nx.set i (y:Int)) | none=>(-1,tk,nx.set i w))) (by
  rintro ⟨x,s⟩ ⟨y,rfl,hy,hc⟩
  dsimp only at hc
  rcases hc with ⟨w,rfl,hno⟩ | ⟨y0,hy0,hp,rfl⟩
  ·unfold C6
   dsimp only
   rw [htb]
   by_cases hyn:y<n
   ·rw [if_pos (by omega),if_pos (by omega)]
    simp only [obs0]
    rw [M6 n f i y hi hyn]
    simp only [obs0]
    have next:¬Amb n (A8 f) i φ y → ∀z,z<y+1→¬Amb n (A8 f) i φ z:=fun hn z hz=>by
     by_cases e:z=y
     ·subst e;exact hn
     ·exact hno z (by omega)
    by_cases hl:A8 f i y=true
    ·have hl':(decide (i≠y)&&f i y)=true:=hl
     rw [hl',if_pos rfl,Ae (by omega),tna0]
     by_cases htk:nth tk y=true
     ·rw [if_pos htk]
      simp only [obs0]
      rw [Ae (by unfold InI;omega)]
      exact .inl ⟨_,rfl,⟨y+1,rfl,by omega,.inl ⟨w,rfl,next fun hcp=>(ht.2 y hyn).1 htk hcp.1⟩⟩,by dsimp only;omega⟩
     ·have hf:=(ht.no hyn).1 (by simpa using htk)
      rw [if_neg htk]
      simp only [obs0]
      obtain ⟨g1,g2⟩:=Au4 hi hS.gv hyn hf hl
      obtain ⟨v',hv'⟩:=Arv n (frG (A8 f) (i+1) (φ.set y (i:Int)))
      obtain ⟨v,hv⟩:=Arv n (frG (A8 f) i φ)
      have hsum:=hS.nu v hv
      have hiff:=A4c hf hl hv hv'
      have hN':A0g n (i+1) (φ.set y (i:Int)) (nx.set i (y:Int)):=⟨Axm hφl hS.gv hN.1 hi hyn hf,fun j hj hjn=>by
       rw [Bm _ _ _ _ (by omega),if_neg (by omega)]
       exact hN.2 j (by omega) hjn⟩
      have eF:=Aum (f:=f) (by omega) (show i+1≤n by omega) g1 hN' hv'
      rw [Ae (by rw [List.length_set];omega),tna0,List.set_set,eF]
      simp only [obs0]
      have hszn:Gq n φ≤n:=Ac3 _ _
      by_cases hq:v'+1=v
      ·rw [if_pos (by omega),Ae (by omega),Ae (by unfold InI;omega)]
       exact .inl ⟨_,rfl,⟨y+1,rfl,by omega,.inr ⟨y,by omega,.one hyn (hiff.2 hq) hno,rfl⟩⟩,by dsimp only;omega⟩
      ·rw [if_neg (by omega),Ae (by unfold InI;omega)]
       exact .inl ⟨_,rfl,⟨y+1,rfl,by omega,.inl ⟨(y:Int),rfl,next fun hcp=>hq (hiff.1 hcp)⟩⟩,by dsimp only;omega⟩
    ·have hl':¬(decide (i≠y)&&f i y)=true:=hl
     rw [if_neg hl']
     simp only [obs0]
     rw [Ae (by unfold InI;omega)]
     exact .inl ⟨_,rfl,⟨y+1,rfl,by omega,.inl ⟨w,rfl,next fun hcp=>hl hcp.2.1⟩⟩,by dsimp only;omega⟩
   ·rw [if_neg (by omega)]
    simp only [obs0]
    exact .inr ⟨_,rfl,none,w,.none fun z hz=>hno z (by omega),rfl⟩
  ·unfold C6
   dsimp only
   rw [htb]
   by_cases hyn:y<n
   ·rw [if_pos (by omega),if_neg (by omega)]
    simp only [obs0]
    exact .inr ⟨_,rfl,some y0,0,hp,rfl⟩
   ·rw [if_neg (by omega)]
    simp only [obs0]
    exact .inr ⟨_,rfl,some y0,0,hp,rfl⟩) (s:=((0:Int),(-1:Int),tk,nx)) ⟨0,rfl,Nat.zero_le _,.inl ⟨nth nx i,by
   have:nx.set i (nth nx i)=nx:=by
    refine Px (by simp) fun k hk=> ?_
    rw [List.length_set] at hk
    rw [Bm _ _ _ _ hk]
    by_cases e:i=k
    ·rw [if_pos e,e]
    ·rw [if_neg e]
   rw [this],fun z hz=>by omega⟩⟩
 exact ⟨a,w,ha,by rw [e,ht']⟩
end
noncomputable def Ta (n:Nat) (φ next:List Int) (k:Nat):List (List Int):=((List.range k).filter fun y=>decide (nth φ y = -1)).map fun y:Nat=>D0 next (n+1) (y:Int)
theorem Asa (n:Nat) (φ next:List Int) (k:Nat):Ta n φ next (k+1)=if nth φ k = -1 then Ta n φ next k++[D0 next (n+1) (k:Int)] else Ta n φ next k:=by
 unfold Ta
 rw [List.range_succ,List.filter_append,List.map_append]
 by_cases h:nth φ k = -1
 ·rw [if_pos h,List.filter_cons_of_pos (by simpa using h)];rfl
 ·rw [if_neg h,List.filter_cons_of_neg (by simpa using h)];simp
theorem Ahb (n:Nat) (φ next:List Int) (k:Nat):(Ta n φ next k).length≤k:=by
 unfold Ta
 rw [List.length_map]
 exact Nat.le_trans (List.length_filter_le _ _) (by simp)
section
variable {n:Nat} {L:Nat→Nat→Bool} {φ next:List Int} (h10:n≤10) (hL:StrO n L) (hφ:MtOne n L φ) (hN:NxR n n φ next)
include h10 hL hφ hN
omit h10 in
theorem Axw (r1:List (List Bool)×Bool) (led:List Bool) (x:Int) (acc0:List (List Int)) : ∀y,y<n → ∀acc:List Int,acc.length+(D0 next (n+1) (y:Int)).length≤1000→Aj (Cj r1 led next x acc0) ((y:Int),acc)=some (acc++D0 next (n+1) (y:Int)):=by
 have hLm:=Ao
 have hnl:=hN.1
 have stop : ∀z:Int,z<0 → ∀acc:List Int,Aj (Cj r1 led next x acc0) (z,acc)=some acc:=fun z hz acc=>by
  refine D2 ?_
  unfold Cj
  dsimp only
  rw [if_neg (by omega)]
 have step : ∀(y:Nat),y<n → ∀acc:List Int,acc.length+1≤1000→Cj r1 led next x acc0 ((y:Int),acc)=some (.inl (nth next y,acc++[(y:Int)])):=fun y hy acc ha=>by
  unfold Cj
  dsimp only
  rw [if_pos (by omega),Ae (by simp;omega),Ae (by omega),tna0]
 refine Yo hL hφ hN (fun y hy h acc ha=> ?_) fun y z hy hz e hl ih acc ha=> ?_
 ·rw [Hn hL hφ hN hy,if_pos h] at ha ⊢
  rw [F7 (step y hy acc (by simpa using ha)),stop _ h]
 ·rw [Hn hL hφ hN hy,e,if_neg (by omega)] at ha ⊢
  simp only [List.length_cons] at ha
  rw [F7 (step y hy acc (by omega)),e,ih (acc++[(y:Int)]) (by simp;omega)]
  simp
omit h10 in
theorem Axi (p:SPoset) (led:List Bool) (x:Int) (acc0:List (List Int)) : ∀y,y<n → ∀acc:List Int,acc.length+(D0 next (n+1) (y:Int)).length≤1000→Aj (Ci p next led x acc0) ((y:Int),acc)=some (acc++D0 next (n+1) (y:Int)):=by
 have hLm:=Ao
 have hnl:=hN.1
 have stop : ∀z:Int,z<0 → ∀acc:List Int,Aj (Ci p next led x acc0) (z,acc)=some acc:=fun z hz acc=>by
  refine D2 ?_
  unfold Ci
  dsimp only
  rw [if_neg (by omega)]
 have step : ∀(y:Nat),y<n → ∀acc:List Int,acc.length+1≤1000→Ci p next led x acc0 ((y:Int),acc)=some (.inl (nth next y,acc++[(y:Int)])):=fun y hy acc ha=>by
  unfold Ci
  dsimp only
  rw [if_pos (by omega),Ae (by simp;omega),Ae (by omega),tna0]
 refine Yo hL hφ hN (fun y hy h acc ha=> ?_) fun y z hy hz e hl ih acc ha=> ?_
 ·rw [Hn hL hφ hN hy,if_pos h] at ha ⊢
  rw [F7 (step y hy acc (by simpa using ha)),stop _ h]
 ·rw [Hn hL hφ hN hy,e,if_neg (by omega)] at ha ⊢
  simp only [List.length_cons] at ha
  rw [F7 (step y hy acc (by omega)),e,ih (acc++[(y:Int)]) (by simp;omega)]
  simp
theorem Avg (f:Nat→Nat→Bool) (b:Bool) {led:List Bool} (ht:Led n φ led):Aj (Cz (tab n f,b) led next) (0,Ar (List Int))=some (Ta n φ next n):=by
 have hLm:=Ao
 have htl:=ht.1
 have htb:=Bw n f
 have key:=Az (body:=Cz (tab n f,b) led next) (fun i=>((i:Int),Ta n φ next i)) n (Ta n φ next n) (fun i hi=>by
  have hcl:=Aj1 hL hφ hN hi
  have hln:=Ahb n φ next i
  unfold Cz
  dsimp only
  rw [htb,if_pos (by omega),Ae (by omega),tna0,Asa]
  by_cases h:nth led i=true
  ·rw [if_pos h,if_neg ((ht.2 i hi).1 h),Ae (by unfold InI;omega)];rfl
  ·rw [if_neg h,if_pos ((ht.no hi).1 (by simpa using h)),Axw hL hφ hN (tab n f,b) led (i:Int) (Ta n φ next i) i hi (Ar Int) (by simp [Ar];omega)]
   simp only [obs0]
   rw [Ae (by simp only [List.length_cons,List.length_nil];omega),Ae (by unfold InI;omega)];rfl) (by
  unfold Cz
  dsimp only
  rw [htb,if_neg (by omega)])
 exact key
theorem Aud (p:SPoset) (hP:p.Below.length=n) {led:List Bool} (ht:Led n φ led):Aj (Cx p next led) (0,Ar (List Int))=some (Ta n φ next n):=by
 have hLm:=Ao
 have htl:=ht.1
 have key:=Az (body:=Cx p next led) (fun i=>((i:Int),Ta n φ next i)) n (Ta n φ next n) (fun i hi=>by
  have hcl:=Aj1 hL hφ hN hi
  have hln:=Ahb n φ next i
  unfold Cx
  dsimp only
  rw [if_pos (by omega),Ae (by omega),tna0,Asa]
  by_cases h:nth led i=true
  ·rw [if_pos h,if_neg ((ht.2 i hi).1 h),Ae (by unfold InI;omega)];rfl
  ·rw [if_neg h,if_pos ((ht.no hi).1 (by simpa using h)),Axi hL hφ hN p led (i:Int) (Ta n φ next i) i hi (Ar Int) (by simp [Ar];omega)]
   simp only [obs0]
   rw [Ae (by simp only [List.length_cons,List.length_nil];omega),Ae (by unfold InI;omega)];rfl) (by
  unfold Cx
  dsimp only
  rw [if_neg (by omega)])
 exact key
end
theorem Awd {p:SPoset} (hs:small p) (hg:good p.Below) : ∃φ next,D1 p=some (Ta p.Below.length φ next p.Below.length,true)∧D3 p=some (Ta p.Below.length φ next p.Below.length,true)∧MtOne p.Below.length (A8 (below p.Below)) φ∧NxR p.Below.length p.Below.length φ next∧Nx p.Below.length (A8 (below p.Below)) (Gq p.Below.length φ):=by
 have hLm:=Ao
 have h10:p.Below.length≤10:=hg.1
 have hO:=Aoi hg
 have hL:=Amp hO
 obtain ⟨n,hP⟩ : ∃n,p.Below.length=n:=⟨_,rfl⟩
 obtain ⟨v0,hv0⟩:=Arv n (A8 (below p.Below))
 rw [hP] at h10 hL
 have s0:StepCh n (A8 (below p.Below)) 0 (List.replicate n (-1)) v0:=by
  obtain ⟨g1,g2⟩:=Aoj n (A8 (below p.Below))
  refine ⟨g1,fun v hv=> ?_⟩
  rw [g2,(Ar2.1 hv).uniq hv0];omega
 have led0:Led n (List.replicate n (-1)) (List.replicate n false):=⟨by simp,fun k hk=>by rw [Bh _ hk,Bh _ hk];simp⟩
 obtain ⟨⟨nx,tk⟩,e1,a1,a2,a3⟩:=Hq (body:=E2 p) (fun s => ∃i:Nat,s.1=(i:Int)∧i≤n∧StepCh n (A8 (below p.Below)) i (Nw n (A8 (below p.Below)) i) v0∧Led n (Nw n (A8 (below p.Below)) i) s.2.2∧NxR n i (Nw n (A8 (below p.Below)) i) s.2.1) (fun s=>n-s.1.toNat) (fun t=>StepCh n (A8 (below p.Below)) n (Nw n (A8 (below p.Below)) n) v0∧Led n (Nw n (A8 (below p.Below)) n) t.2∧NxR n n (Nw n (A8 (below p.Below)) n) t.1) (by
  rintro ⟨x,nx,tk⟩ ⟨i,rfl,hi,hS,ht,hN⟩
  dsimp only at ht hN
  have hnl:=hN.1
  unfold E2
  dsimp only
  by_cases hin:i<n
  ·obtain ⟨v,ev,hv⟩:=Ali hs (by omega) hP ht (i0:=i) (by omega)
   obtain ⟨a,ha,e⟩:=Ax9 hs h10 hP hin hS ht hnl hv
   have hφl:=hS.gv.one.len
   rw [if_pos (by omega),Ae (by omega),ev]
   simp only [obs0]
   rw [tna0,e]
   have ep:=Awh ha
   cases ha with
   | one hy hc hf=>
     rename_i y
     simp only [obs0]
     rw [Ae (by unfold InI;omega)]
     have ee:Nw n (A8 (below p.Below)) (i+1)=(Nw n (A8 (below p.Below)) i).set y (i:Int):=by simp only [Nw];rw [ep]
     refine .inl ⟨_,rfl,⟨i+1,rfl,hin,?_,?_,?_⟩,by dsimp only;omega⟩
     ·rw [ee];exact Am1 hS hin hy hc
     ·rw [ee];exact ht.put hφl
     ·rw [ee];exact Axm hφl hS.gv hN hin hy hc.1
   | none hc=>
     simp only [obs0]
     rw [Ae (by unfold InI;omega)]
     have ee:Nw n (A8 (below p.Below)) (i+1)=Nw n (A8 (below p.Below)) i:=by simp only [Nw];rw [ep]
     refine .inl ⟨_,rfl,⟨i+1,rfl,hin,?_,?_,?_⟩,by dsimp only;omega⟩
     ·rw [ee];exact Ak3 hS hin hc
     ·rw [ee];exact ht
     ·rw [ee];exact Azb hS.gv hN hin
  ·have:i=n:=by omega
   subst this
   rw [if_neg (by omega)]
   exact .inr ⟨_,rfl,hS,ht,hN⟩) (s:=((0:Int),List.replicate n 0,List.replicate n false)) ⟨0,rfl,Nat.zero_le _,s0,led0,by simp,fun j hj=>by omega⟩
 dsimp only at a2 a3
 obtain ⟨⟨tk',nx'⟩,e2,b2,b3⟩:=Hq (body:=E3 (tab n (below p.Below),true) ((n:Int)-(v0:Int))) (fun s => ∃i:Nat,s.1=(i:Int)∧i≤n∧StepCh n (A8 (below p.Below)) i (Nw n (A8 (below p.Below)) i) v0∧Led n (Nw n (A8 (below p.Below)) i) s.2.1∧A0g n i (Nw n (A8 (below p.Below)) i) s.2.2) (fun s=>n-s.1.toNat) (fun t=>Led n (Nw n (A8 (below p.Below)) n) t.1∧NxR n n (Nw n (A8 (below p.Below)) n) t.2) (by
  rintro ⟨x,tk,nx⟩ ⟨i,rfl,hi,hS,ht,hN⟩
  dsimp only at ht hN
  have hnl:=hN.1.1
  have htb:=Bw n (below p.Below)
  unfold E3
  dsimp only
  rw [htb]
  by_cases hin:i<n
  ·obtain ⟨a,w,ha,e⟩:=Axv h10 true hin hS ht hN
   have hφl:=hS.gv.one.len
   rw [if_pos (by omega),e]
   have ep:=Awh ha
   cases ha with
   | one hy hc hf=>
     rename_i y
     simp only [obs0]
     rw [Ae (by rw [List.length_set];omega),Ae (by unfold InI;omega),tna0,List.set_set]
     have ee:Nw n (A8 (below p.Below)) (i+1)=(Nw n (A8 (below p.Below)) i).set y (i:Int):=by simp only [Nw];rw [ep]
     refine .inl ⟨_,rfl,⟨i+1,rfl,hin,?_,?_,?_⟩,by dsimp only;omega⟩
     ·rw [ee];exact Am1 hS hin hy hc
     ·rw [ee];exact ht.put hφl
     ·rw [ee]
      exact ⟨Axm hφl hS.gv hN.1 hin hy hc.1,fun j hj hjn=>by
       dsimp only
       rw [Bm _ _ _ _ (by omega),if_neg (by omega)]
       exact hN.2 j (by omega) hjn⟩
   | none hc=>
     simp only [obs0]
     rw [Ae (by rw [List.length_set];omega),Ae (by unfold InI;omega),tna0,List.set_set]
     have ee:Nw n (A8 (below p.Below)) (i+1)=Nw n (A8 (below p.Below)) i:=by simp only [Nw];rw [ep]
     refine .inl ⟨_,rfl,⟨i+1,rfl,hin,?_,?_,?_⟩,by dsimp only;omega⟩
     ·rw [ee];exact Ak3 hS hin hc
     ·rw [ee];exact ht
     ·rw [ee]
      exact ⟨Azb hS.gv hN.1 hin,fun j hj hjn=>by
       dsimp only
       rw [Bm _ _ _ _ (by omega),if_neg (by omega)]
       exact hN.2 j (by omega) hjn⟩
  ·have:i=n:=by omega
   subst this
   rw [if_neg (by omega)]
   exact .inr ⟨_,rfl,ht,hN.1⟩) (s:=((0:Int),List.replicate n false,List.replicate n (-2))) ⟨0,rfl,Nat.zero_le _,s0,led0,⟨by simp,fun j hj=>by omega⟩,fun j _ hjn=>Bh _ hjn⟩
 dsimp only at b2 b3
 have hφ:=a1.gv.one
 have enx:nx'=nx:=A5l hφ b3 a3
 subst enx
 have hsz:Nx n (A8 (below p.Below)) (Gq n (Nw n (A8 (below p.Below)) n)):=by
  obtain ⟨v,hv⟩:=Arv n (frG (A8 (below p.Below)) n (Nw n (A8 (below p.Below)) n))
  have h1:=a1.nu v hv
  rw [A6f hv] at h1
  have:Gq n (Nw n (A8 (below p.Below)) n)=v0:=by omega
  rw [this];exact hv0
 refine ⟨Nw n (A8 (below p.Below)) n,nx',?_,?_,by rw [hP];exact hφ,by rw [hP];exact a3,by rw [hP];exact hsz⟩
 ·unfold D1
  rw [Tg p hs.1 hs.2,dtr0 hg]
  simp only [obs0,if_true]
  rw [Ae (by omega),Ae (by omega),tna0,hP,e1]
  simp only [obs0]
  rw [Aud h10 hL hφ a3 p hP a2]
  rfl
 ·unfold D3
  rw [Hs p hs.1 hs.2 hg,hP]
  simp only [obs0,if_true]
  rw [Bw,Ae (by omega),tna0]
  have k0:=Az (body:=C0 (tab n (below p.Below),true)) (fun i=>((i:Int),List.replicate i (-2:Int)++List.replicate (n-i) 0)) n (List.replicate n (-2)) (fun i hi=>by
   unfold C0
   dsimp only
   rw [Bw,tna0,if_pos (by omega),Ae (by simp;omega),Ae (by unfold InI;omega),tna0,Atk _ _ _ hi (by simp),List.replicate_succ']
   rfl) (by
   unfold C0
   dsimp only
   rw [Bw,tna0,if_neg (by omega),Nat.sub_self]
   simp)
  have k0':Aj (C0 (tab n (below p.Below),true)) (0,List.replicate n 0)=some (List.replicate n (-2)):=by simpa using k0
  rw [k0']
  simp only [obs0]
  rw [Aum (f:=below p.Below) (i:=0) (φ:=List.replicate n (-1)) (by omega) (by omega) s0.gv ⟨⟨by simp,fun j hj=>by omega⟩,fun j _ hjn=>Bh _ hjn⟩ (Ar2.2 hv0),(Aoj n (A8 (below p.Below))).2,Nat.zero_add]
  simp only [obs0]
  rw [Ae (by omega),e2]
  simp only [obs0]
  rw [Avg h10 hL hφ b3 (below p.Below) true b2]
  rfl
theorem A06 {n:Nat} {L:Nat→Nat→Bool} {φ next:List Int} (hL:StrO n L) (hφ:MtOne n L φ) (hN:NxR n n φ next):(Ta n φ next n).length≤n ∧ ∀r∈Ta n φ next n,r.length≤n:=by
 refine ⟨Ahb n φ next n,fun r hr=> ?_⟩
 obtain ⟨y,hy,rfl⟩:=List.mem_map.1 hr
 exact Aj1 hL hφ hN (List.mem_range.1 (List.mem_filter.1 hy).1)
end Go.Proofs.Ytpfikenknmlajaa.Ax
namespace Go.Proofs.Ytpfikenknmlajaa.Ax
open Go Classical
theorem Ar5 (n:Nat) (q:Nat→Bool):(Al n q).length=Bz n q:=by
 unfold Al Bz
 rw [List.length_map]
theorem A0c (A:Nat→Bool) : ∀n,∃m,m<2^n ∧ ∀i,i<n→Bt m i=A i
 | 0=>⟨0,by simp,fun i hi=>by omega⟩
 | n+1=>by
   obtain ⟨m,h1,h2⟩:=A0c A n
   have hm:m<2^(n+1):=by rw [Nat.pow_succ];omega
   cases hA:A n with
   | false=>
     refine ⟨m,hm,fun i hi=> ?_⟩
     by_cases e:i=n
     ·subst e;rw [hA,Gj];exact Nat.testBit_lt_two_pow h1
     ·exact h2 i (by omega)
   | true=>
     refine ⟨m ||| 2^n,Nat.or_lt_two_pow hm (Nat.pow_lt_pow_right (by omega) (by omega)),fun i hi=> ?_⟩
     rw [Gj,Nat.testBit_or,Nat.testBit_two_pow]
     by_cases e:i=n
     ·subst e;simp [hA]
     ·rw [←Gj,h2 i (by omega),dfa0 (fun hh=>e hh.symm),Bool.or_false]
theorem A5g {α:Type} {R:α→α→Prop} : ∀ {l:List α},l.Pairwise R → ∀ {a b:α},a∈l→b∈l→a≠b→R a b∨R b a
 | [],_,_,_,ha,_,_=>by cases ha
 | c::l,h,a,b,ha,hb,hne=>by
   rw [List.pairwise_cons] at h
   rcases List.mem_cons.1 ha with ha | ha
   ·rcases List.mem_cons.1 hb with hb | hb
    ·exact absurd (ha.trans hb.symm) hne
    ·exact .inl (ha▸h.1 _ hb)
   ·rcases List.mem_cons.1 hb with hb | hb
    ·exact .inr (hb▸h.1 _ ha)
    ·exact A5g h.2 ha hb hne
section
variable {n:Nat} {f:Nat→Nat→Bool}
theorem A4z {m:Nat} (ha:anti f (Al n (Bt m))) : ∀M,m<M→(Al n (Bt m)).length≤(bst n f M).length
 | 0,h=>by omega
 | M+1,h=>by
   simp only [bst]
   have ih:m<M→(Al n (Bt m)).length≤(bst n f M).length:=A4z ha M
   by_cases hc:((Al n (Bt M)).length>(bst n f M).length∨((Al n (Bt M)).length=(bst n f M).length∧Awb (Al n (Bt M)) (bst n f M)))∧anti f (Al n (Bt M))
   ·rw [if_pos hc]
    by_cases e:m=M
    ·subst e;exact Nat.le_refl _
    ·have:=ih (by omega)
     rcases hc.1 with h1 | h1<;>omega
   ·rw [if_neg hc]
    by_cases e:m=M
    ·subst e
     exact Nat.le_of_not_lt fun hl=>hc ⟨.inl hl,ha⟩
    ·exact ih (by omega)
theorem At9 : ∀M,bst n f M=[] ∨ ∃m,bst n f M=Al n (Bt m)∧anti f (Al n (Bt m))
 | 0=> .inl rfl
 | M+1=>by
   simp only [bst]
   split
   ·rename_i h;exact .inr ⟨M,rfl,h.2⟩
   ·exact At9 M
theorem Ar1 {q:Nat→Bool}:anti f (Al n q) ↔ ∀i j,i<n→j<n→q i=true→q j=true→A8 f i j=false:=by
 unfold anti A8
 constructor
 ·intro h i j hi hj qi qj
  have:=h (i:Int) (Dv.2 ⟨i,hi,qi,rfl⟩) (j:Int) (Dv.2 ⟨j,hj,qj,rfl⟩)
  rw [tna0,tna0] at this
  cases hh:(decide (i≠j)&&f i j) with
  | false=>rfl
  | true=>
    rw [Bool.and_eq_true,decide_eq_true_eq] at hh
    exact absurd hh this
 ·intro h x hx y hy hc
  obtain ⟨i,hi,qi,rfl⟩:=Dv.1 hx
  obtain ⟨j,hj,qj,rfl⟩:=Dv.1 hy
  rw [tna0,tna0] at hc
  have:=h i j hi hj qi qj
  rw [dtr0 hc.1,hc.2] at this
  cases this
theorem A2w {φ next:List Int}:(Ta n φ next n).length=Bz n fun y=>decide (nth φ y = -1):=by
 unfold Ta Bz
 rw [List.length_map]
theorem A02 (hn:n≤1000) {φ next:List Int} (hO:Ord n f) (hφ:MtOne n (A8 f) φ) (hN:NxR n n φ next) (hk:Nx n (A8 f) (Gq n φ)):(bst n f (2^n)).length=(Ta n φ next n).length:=by
 have hL:=Amp hO
 rw [A2w]
 refine Nat.le_antisymm ?_ ?_
 ·rcases At9 (n:=n) (f:=f) (2^n) with e | ⟨m,e,ha⟩
  ·rw [e];exact Nat.zero_le _
  ·rw [e,Ar5]
   rw [Ar1] at ha
   have root : ∀x,x<n → ∃y,y<n∧nth φ y = -1∧(x:Int)∈D0 next (n+1) (y:Int):=fun x hx=>by
    have h1:=Aot hL hφ hN hx
    have h2:(x:Int)∈(((List.range n).filter fun y=>decide (nth φ y = -1)).map fun y:Nat=>D0 next (n+1) (y:Int)).flatten:=List.count_pos_iff.1 (by rw [h1];exact Nat.zero_lt_one)
    obtain ⟨l,h3,h4⟩:=List.mem_flatten.1 h2
    obtain ⟨y,h5,rfl⟩:=List.mem_map.1 h3
    obtain ⟨h6,h7⟩:=List.mem_filter.1 h5
    exact ⟨y,List.mem_range.1 h6,of_decide_eq_true h7,h4⟩
   refine X7 (fun x=>if h:x<n then Classical.choose (root x h) else 0) (fun x hx _=> ?_) fun x y hx hy qx qy e=> ?_
   ·rw [dif_pos hx]
    obtain ⟨h1,h2,_⟩:=Classical.choose_spec (root x hx)
    exact ⟨h1,dtr0 h2⟩
   ·rw [dif_pos hx,dif_pos hy] at e
    obtain ⟨h1,_,h3⟩:=Classical.choose_spec (root x hx)
    obtain ⟨_,_,h3'⟩:=Classical.choose_spec (root y hy)
    rw [←e] at h3'
    refine Classical.byContradiction fun hne=> ?_
    have hp:=(Awi hL hφ hN _ h1).2
    rcases A5g hp h3 h3' (fun hh=>hne (by omega)) with h4 | h4
    ·rw [tna0,tna0,ha x y hx hy qx qy] at h4;cases h4
    ·rw [tna0,tna0,ha y x hy hx qy qx] at h4;cases h4
 ·obtain ⟨m,S,D,_,hM⟩:=Aoa (n:=n) (E:=A8 f) (by omega) (less:=fun a b=>some (A8 f a.toNat b.toNat)) (fun i k _ _=>by rw [tna0,tna0])
  obtain ⟨A,h1,h2⟩:=hM.apart
  have h3:=hM.nu.uniq hk
  obtain ⟨M,h4,h5⟩:=A0c A n
  have h6:anti f (Al n (Bt M)):=Ar1.2 fun i j hi hj qi qj=>h2 i j hi hj (by rw [←h5 i hi];exact qi) (by rw [←h5 j hj];exact qj)
  have h7:=A4z h6 _ h4
  rw [Ar5,Ef h5] at h7
  have h8:=Aiq n fun y=>decide (nth φ y = -1)
  have h9:Gq n φ=Bz n fun y => !decide (nth φ y = -1):=Ef fun y _=>by
   by_cases e:nth φ y = -1<;>simp [e]
  omega
end
theorem Az9 {n:Nat} {r s:Nat→Nat→Bool} (hr:Strict n r) (hs:Strict n s) (h : ∀x y,x<n→y<n→s y x=r x y) : ∀x,x<n → ∃y,y<n∧ht n r x+ht n s x≤ht n r y:=by
 refine Agc hs fun x hx ih=> ?_
 have e:=Ay5 hs hx
 rcases Nat.eq_zero_or_pos (ht n s x) with h0 | h0
 ·exact ⟨x,hx,by omega⟩
 ·rw [e] at h0
  obtain ⟨z,hz,he⟩:=A35 h0
  rw [←e] at he
  by_cases hzx:s z x=true
  ·rw [if_pos hzx] at he
   obtain ⟨y,hy,hl⟩:=ih z hz hzx
   have h1:=A0d hr hz hx (by rw [←h x z hx hz];exact hzx)
   exact ⟨y,hy,by omega⟩
  ·rw [if_neg hzx] at he
   omega
theorem A6t {n:Nat} {r s:Nat→Nat→Bool} (hr:Strict n r) (hs:Strict n s) (h : ∀x y,x<n→y<n→s y x=r x y):(mx n fun x=>ht n r x+1)=mx n fun x=>ht n s x+1:=by
 refine Nat.le_antisymm (Aoy fun x hx=> ?_) (Aoy fun x hx=> ?_)
 ·obtain ⟨y,hy,hl⟩:=Az9 hs hr (fun a b ha hb=>(h b a hb ha).symm) x hx
  have:=Az0 (n:=n) (f:=fun x=>ht n s x+1) hy
  omega
 ·obtain ⟨y,hy,hl⟩:=Az9 hr hs h x hx
  have:=Az0 (n:=n) (f:=fun x=>ht n r x+1) hy
  omega
section
variable {n:Nat} {f:Nat→Nat→Bool}
theorem Avj {g:Nat→Nat→Bool} (h : ∀x y,x<n→y<n→f x y=g x y) {m x:Nat} (hx:x<n):Ho n f m x=Ho n g m x:=by
 unfold Ho
 rw [decide_eq_decide]
 exact ⟨fun ⟨h1,h2⟩=>⟨h1,fun y hy hne hg=>h2 y hy hne (by rw [h y x hy hx];exact hg)⟩,fun ⟨h1,h2⟩=>⟨h1,fun y hy hne hg=>h2 y hy hne (by rw [←h y x hy hx];exact hg)⟩⟩
theorem Amx {g:Nat→Nat→Bool} (h : ∀x y,x<n→y<n→f x y=g x y) : ∀m,Eh n f m=Eh n g m
 | 0=>rfl
 | m+1=>by
   have key : ∀ws x,x≤n→inn n f m ws x=inn n g m ws x:=fun ws x=>by
    induction x with
    | zero=>intro _;rfl
    | succ x ih=>
      intro hx
      simp only [inn]
      rw [ih (by omega)]
      unfold Aop
      rw [Avj h (by omega)]
   simp only [Eh]
   rw [Amx h m,key _ n (Nat.le_refl _)]
theorem Aw9 (h10:n≤10) {m:Nat} (hm:m<2^n):0≤Li n f m:=by
 have h:=Acu (f:=f) h10 m (by omega)
 exact h.pos m (by rw [h.len];exact hm)
theorem Ach {g:Nat→Int} : ∀ {k:Nat},(∀i,i<k→0≤g i)→0≤F6 g k
 | 0,_=>by simp [F6]
 | k+1,h=>by
   have h1:=Ach (g:=g) (k:=k) fun i hi=>h i (by omega)
   have h2:=h k (by omega)
   simp only [F6];omega
theorem Asn {g:Nat→Int} {a:Nat} : ∀ {k:Nat},a<k→(∀i,i<k→0≤g i)→g a≤F6 g k
 | 0,h,_=>by omega
 | k+1,h,hp=>by
   have h2:=hp k (by omega)
   simp only [F6]
   by_cases e:a=k
   ·subst e
    have h1:=Ach (g:=g) (k:=a) fun i hi=>hp i (by omega)
    omega
   ·have h1:=Asn (g:=g) (a:=a) (k:=k) (by omega) fun i hi=>hp i (by omega)
    omega
theorem Awr (hO:Strict n (rel f true)) (h10:n≤10) : ∀k,k≤n → ∃m,m<2^n∧pc n m=k∧0<Li n f m
 | 0,_=>⟨0,Nat.pow_pos (by omega),by
   unfold pc Al
   rw [List.length_map,List.filter_eq_nil_iff.2 (fun i _=>by rw [Gj];simp)];rfl,by rw [Ahg];omega⟩
 | k+1,hk=>by
   obtain ⟨m,hm,hp,hw⟩:=Awr hO h10 k (by omega)
   have hex : ∃x,x<n∧Ho n f m x=true:=by
    refine Classical.byContradiction fun hc=> ?_
    have all : ∀x,x<n→Bt m x=true:=Agc hO fun x hx ih=>by
     cases hb:Bt m x with
     | true=>rfl
     | false=>
       refine absurd ⟨x,hx,dtr0 ⟨hb,fun y hy hne hf=>ih y hy ?_⟩⟩ hc
       simp [rel,hne,hf]
    have:=Azc hm all
    omega
   obtain ⟨x,hx,hf⟩:=hex
   have hlt:=W0 hm hx
   have hgt:=Aj8 hf rfl
   refine ⟨D9 m x,hlt,?_,?_⟩
   ·unfold pc at hp ⊢
    rw [Akg (x:=x) (Lx hf) (fun i=>Aip m x i),hp,if_pos hx]
   ·have e:Li n f (D9 m x)=F6 (fun m'=>F6 (fun x'=>if Ho n f m' x'=true∧D9 m' x'=D9 m x then Li n f m' else 0) n) (2^n):=V3 (by omega) hlt (Nat.le_refl _) (by omega)
    have hnn : ∀m',m'<2^n → ∀x',0≤(if Ho n f m' x'=true∧D9 m' x'=D9 m x then Li n f m' else 0):=fun m' hm' x'=>by
     split
     ·exact Aw9 h10 hm'
     ·exact Int.le_refl _
    have h1:=Asn (g:=fun m'=>F6 (fun x'=>if Ho n f m' x'=true∧D9 m' x'=D9 m x then Li n f m' else 0) n) hm fun m' hm'=>Ach fun x' _=>hnn m' hm' x'
    have h2:=Asn (g:=fun x'=>if Ho n f m x'=true∧D9 m x'=D9 m x then Li n f m else 0) hx fun x' _=>hnn m hm x'
    rw [if_pos ⟨hf,rfl⟩] at h2
    rw [e];omega
theorem A5f (hO:Strict n (rel f true)) (h10:n≤10):1≤nth (Eh n f (2^n)) (2^n-1):=by
 obtain ⟨m,hm,hp,hw⟩:=Awr hO h10 n (Nat.le_refl _)
 have e:=A4w hm hp
 subst e
 rcases Nat.eq_zero_or_pos n with h0 | h0
 ·subst h0
  have h1:=Ag5 (n:=0) (f:=f) 1 (by simp) 0 (by simp)
  have h2:nth (Eh 0 f (2^0)) (2^0-1)=nth (Eh 0 f 1) 0:=rfl
  rw [h2,h1]
  simp [F6]
 ·have hp1:2^1≤2^n:=Nat.pow_le_pow_right (by omega) h0
  have e1:=V3 (n:=n) (f:=f) (t:=2^n-1) (by omega) hm (k:=2^n-1) (Nat.le_refl _) (by omega)
  have e2:=V3 (n:=n) (f:=f) (t:=2^n-1) (by omega) hm (k:=2^n) (by omega) (Nat.le_refl _)
  unfold Li at hw
  rw [e2,←e1];omega
end
end Go.Proofs.Ytpfikenknmlajaa.Ax
namespace Go.Proofs.Ytpfikenknmlajaa.Ax
open Go Classical
section
variable {n:Nat} {f:Nat→Nat→Bool}
theorem A2a (a b:Bool):(a || (a&&b))=a:=by cases a<;>cases b<;>rfl
theorem Avd (z x:Nat) : ∀Y a b,wy f z x Y a b=if a=x∧b<Y then f x b || (f x z&&f z b) else f a b
 | 0,a,b=>by rw [if_neg (by omega)];rfl
 | Y+1,a,b=>by
   simp only [wy,Aql]
   have e1:wy f z x Y x Y=f x Y:=by rw [Avd z x Y,if_neg (by omega)]
   have e2:wy f z x Y x z=f x z:=by
    rw [Avd z x Y]
    by_cases h:z<Y
    ·rw [if_pos ⟨rfl,h⟩,A2a]
    ·rw [if_neg (fun hh=>h hh.2)]
   have e3:wy f z x Y z Y=f z Y:=by rw [Avd z x Y,if_neg (by omega)]
   rw [e1,e2,e3]
   by_cases h:a=x∧b=Y
   ·rw [if_pos h,if_pos ⟨h.1,by omega⟩,h.2]
   ·rw [if_neg h,Avd z x Y]
    by_cases h2:a=x∧b<Y
    ·rw [if_pos h2,if_pos ⟨h2.1,by omega⟩]
    ·rw [if_neg h2,if_neg (fun hh=>h ⟨hh.1,by have:=hh.2;by_cases e:b=Y;exact e;exact absurd ⟨hh.1,by omega⟩ h2⟩)]
theorem Azp (z:Nat) : ∀X a b,wx n f z X a b=if a<X∧b<n then f a b || (f a z&&f z b) else f a b
 | 0,a,b=>by rw [if_neg (by omega)];rfl
 | X+1,a,b=>by
   simp only [wx]
   rw [Avd]
   have e1 : ∀b,wx n f z X X b=f X b:=fun b=>by rw [Azp z X,if_neg (by omega)]
   have e2:wx n f z X z b=if z<X∧b<n then f z b || (f z z&&f z b) else f z b:=Azp z X z b
   have e3:(if z<X∧b<n then f z b || (f z z&&f z b) else f z b)=f z b:=by
    split
    ·cases f z b<;>cases f z z<;>rfl
    ·rfl
   by_cases h:a=X∧b<n
   ·rw [if_pos h,e1,e1,e2,e3,if_pos ⟨by omega,h.2⟩,h.1]
   ·rw [if_neg h,Azp z X]
    by_cases h2:a<X∧b<n
    ·rw [if_pos h2,if_pos ⟨by omega,h2.2⟩]
    ·rw [if_neg h2,if_neg (fun hh=>by
      by_cases e:a=X
      ·exact h ⟨e,hh.2⟩
      ·exact h2 ⟨by omega,hh.2⟩)]
theorem Au3 (Z:Nat) {a b:Nat} (ha:a<n) (hb:b<n):wz n f (Z+1) a b=(wz n f Z a b || (wz n f Z a Z&&wz n f Z Z b)):=by
 simp only [wz]
 rw [Azp,if_pos ⟨ha,hb⟩]
theorem Ah6 {R:Nat→Nat→Bool} (hR : ∀a b c,a<n→b<n→c<n→R a b=true→R b c=true→R a c=true) (h0 : ∀a b,a<n→b<n→f a b=true→R a b=true) : ∀Z,Z≤n → ∀a b,a<n→b<n→wz n f Z a b=true→R a b=true
 | 0,_,a,b,ha,hb,h=>h0 a b ha hb h
 | Z+1,hZ,a,b,ha,hb,h=>by
   rw [Au3 Z ha hb,Bool.or_eq_true,Bool.and_eq_true] at h
   rcases h with h | ⟨h1,h2⟩
   ·exact Ah6 hR h0 Z (by omega) a b ha hb h
   ·exact hR a Z b ha (by omega) hb (Ah6 hR h0 Z (by omega) a Z ha (by omega) h1) (Ah6 hR h0 Z (by omega) Z b (by omega) hb h2)
theorem Atp : ∀Z,∀a b,a<n→b<n→f a b=true→wz n f Z a b=true
 | 0,_,_,_,_,h=>h
 | Z+1,a,b,ha,hb,h=>by rw [Au3 Z ha hb,Atp Z a b ha hb h];rfl
theorem Av1 : ∀Z,Z≤n → ∀z,z<Z → ∀a b,a<n→b<n→wz n f Z a z=true→wz n f Z z b=true→wz n f Z a b=true
 | 0,_,_,h,_,_,_,_,_,_=>by omega
 | Z+1,hZ,z,hz,a,b,ha,hb,h1,h2=>by
   have ih:=Av1 Z (by omega)
   rw [Au3 Z ha (by omega),Bool.or_eq_true,Bool.and_eq_true] at h1
   rw [Au3 Z (by omega) hb,Bool.or_eq_true,Bool.and_eq_true] at h2
   rw [Au3 Z ha hb,Bool.or_eq_true,Bool.and_eq_true]
   by_cases e:z=Z
   ·subst e
    right
    refine ⟨?_,?_⟩
    ·rcases h1 with h | h
     ·exact h
     ·exact h.1
    ·rcases h2 with h | h
     ·exact h
     ·exact h.2
   ·have hzZ:z<Z:=by omega
    rcases h1 with h1 | ⟨h1,h1'⟩
    ·rcases h2 with h2 | ⟨h2,h2'⟩
     ·exact .inl (ih z hzZ a b ha hb h1 h2)
     ·exact .inr ⟨ih z hzZ a Z ha (by omega) h1 h2,h2'⟩
    ·rcases h2 with h2 | ⟨h2,h2'⟩
     ·exact .inr ⟨h1,ih z hzZ Z b (by omega) hb h1' h2⟩
     ·exact .inr ⟨h1,h2'⟩
theorem Azi (g:Nat→Nat→Bool) (ps:List (Int×Int)) : ∀k a b,Acb g ps k a b=true↔g a b=true ∨ ∃i,i<k∧(nth ps i).1.toNat=a∧(nth ps i).2.toNat=b
 | 0,a,b=>⟨fun h=> .inl h,fun h=>h.elim id fun ⟨i,hi,_⟩=>by omega⟩
 | k+1,a,b=>by
   simp only [Acb,Aql]
   by_cases h:a=(nth ps k).1.toNat∧b=(nth ps k).2.toNat
   ·rw [if_pos h]
    exact ⟨fun _=> .inr ⟨k,by omega,h.1.symm,h.2.symm⟩,fun _=>rfl⟩
   ·rw [if_neg h,Azi g ps k]
    constructor
    ·rintro (h1 | ⟨i,hi,h1,h2⟩)
     ·exact .inl h1
     ·exact .inr ⟨i,by omega,h1,h2⟩
    ·rintro (h1 | ⟨i,hi,h1,h2⟩)
     ·exact .inl h1
     ·by_cases e:i=k
      ·subst e;exact absurd ⟨h1.symm,h2.symm⟩ h
      ·exact .inr ⟨i,by omega,h1,h2⟩
theorem Ae3 (x:Nat) (acc:List (Int×Int)) (z:Int×Int) : ∀y,z∈Wz n f x acc y↔z∈acc ∨ ∃j,j<y∧cov n f x j=true∧z=((x:Int),(j:Int))
 | 0=>by simp [Wz]
 | y+1=>by
   simp only [Wz]
   by_cases h:cov n f x y=true
   ·rw [if_pos h,List.mem_append,Ae3 x acc z y,List.mem_singleton]
    constructor
    ·rintro ((h1 | ⟨j,h1,h2⟩) | h1)
     ·exact .inl h1
     ·exact .inr ⟨j,by omega,h2⟩
     ·exact .inr ⟨y,by omega,h,h1⟩
    ·rintro (h1 | ⟨j,h1,h2,h3⟩)
     ·exact .inl (.inl h1)
     ·by_cases e:j=y
      ·subst e;exact .inr h3
      ·exact .inl (.inr ⟨j,by omega,h2,h3⟩)
   ·rw [if_neg h,Ae3 x acc z y]
    constructor
    ·rintro (h1 | ⟨j,h1,h2⟩)
     ·exact .inl h1
     ·exact .inr ⟨j,by omega,h2⟩
    ·rintro (h1 | ⟨j,h1,h2,h3⟩)
     ·exact .inl h1
     ·by_cases e:j=y
      ·subst e;exact absurd h2 h
      ·exact .inr ⟨j,by omega,h2,h3⟩
theorem Aan (z:Int×Int) : ∀x,z∈Gy n f x ↔ ∃i j,i<x∧j<n∧cov n f i j=true∧z=((i:Int),(j:Int))
 | 0=>by simp [Gy]
 | x+1=>by
   simp only [Gy]
   rw [Ae3,Aan z x]
   constructor
   ·rintro (⟨i,j,h1,h2⟩ | ⟨j,h1,h2⟩)
    ·exact ⟨i,j,by omega,h2⟩
    ·exact ⟨x,j,by omega,h1,h2⟩
   ·rintro ⟨i,j,h1,h2,h3,h4⟩
    by_cases e:i=x
    ·subst e;exact .inr ⟨j,h2,h3,h4⟩
    ·exact .inl ⟨i,j,by omega,h2,h3,h4⟩
theorem Aku (x:Nat) (acc:List (Int×Int)) : ∀y,(Wz n f x acc y).length=acc.length+Bz y fun j=>cov n f x j
 | 0=>by simp [Wz,Ac2]
 | y+1=>by
   simp only [Wz]
   rw [H5]
   by_cases h:cov n f x y=true
   ·rw [if_pos h,if_pos h,List.length_append,Aku x acc y];simp;omega
   ·rw [if_neg h,if_neg h,Aku x acc y];rfl
theorem Avr (q:Nat→Nat→Bool) (hn:0<n) : ∀x,(Bz (x*n) fun k=>q (k/n) (k%n))=(List.range x).foldl (fun s i=>s+Bz n fun j=>q i j) 0
 | 0=>by simp [Ac2]
 | x+1=>by
   rw [List.range_succ,List.foldl_append,←Avr q hn x]
   simp only [List.foldl_cons,List.foldl_nil]
   have key : ∀y,y≤n→(Bz (x*n+y) fun k=>q (k/n) (k%n))=(Bz (x*n) fun k=>q (k/n) (k%n))+Bz y fun j=>q x j:=by
    intro y
    induction y with
    | zero=>intro _;simp [Ac2]
    | succ y ih=>
      intro hy
      have e1:(x*n+y)/n=x:=by rw [Nat.mul_comm,Nat.mul_add_div hn,Nat.div_eq_of_lt (by omega)];omega
      have e2:(x*n+y)%n=y:=by rw [Nat.mul_comm,Nat.mul_add_mod,Nat.mod_eq_of_lt (by omega)]
      rw [←Nat.add_assoc,H5,ih (by omega),H5,e1,e2];omega
   rw [Nat.succ_mul]
   exact key n (Nat.le_refl _)
theorem A16 (hn:0<n) (x:Nat):(Gy n f x).length=Bz (x*n) fun k=>cov n f (k/n) (k%n):=by
 rw [Avr (fun i j=>cov n f i j) hn]
 induction x with
 | zero=>rfl
 | succ x ih=>
   simp only [Gy]
   rw [Aku,ih,List.range_succ,List.foldl_append]
   rfl
theorem Ai8 {x y:Nat} (h:cov n f x y=true):x≠y∧f x y=true:=by
 have:=of_decide_eq_true h
 exact this.1
theorem Awv (hf:Ord n f) (h10:n≤10):(Gy n f n).length≤50:=by
 rcases Nat.eq_zero_or_pos n with h0 | hn
 ·subst h0;simp [Gy]
 ·rw [A16 hn]
  have hdm : ∀k,k<n*n→k/n<n∧k%n<n:=fun k hk=>⟨Nat.div_lt_of_lt_mul hk,Nat.mod_lt _ hn⟩
  have hle:(Bz (n*n) fun k=>cov n f (k/n) (k%n))≤Bz (n*n) fun k => !cov n f (k/n) (k%n):=by
   refine X7 (fun k=>k%n*n+k/n) (fun k hk hp=> ?_) fun i j hi hj _ _ e=> ?_
   ·obtain ⟨d1,d2⟩:=hdm k hk
    have e1:(k%n*n+k/n)/n=k%n:=by rw [Nat.mul_comm,Nat.mul_add_div hn,Nat.div_eq_of_lt d1];omega
    have e2:(k%n*n+k/n)%n=k/n:=by rw [Nat.mul_comm,Nat.mul_add_mod,Nat.mod_eq_of_lt d1]
    have e3:k%n*n+k/n<n*n:=by
     have:=Nat.mul_le_mul_right n (show k%n+1≤n by omega)
     rw [Nat.succ_mul] at this
     omega
    refine ⟨e3,?_⟩
    rw [e1,e2,Bool.not_eq_true']
    cases hc:cov n f (k%n) (k/n) with
    | false=>rfl
    | true=>
      have c1:=Ai8 hp
      have c2:=Ai8 hc
      exact absurd (hf.anti _ _ d1 d2 c1.2 c2.2) c1.1
   ·obtain ⟨d1,d2⟩:=hdm i hi
    obtain ⟨d3,d4⟩:=hdm j hj
    have q1:(i%n*n+i/n)/n=i%n:=by rw [Nat.mul_comm,Nat.mul_add_div hn,Nat.div_eq_of_lt d1];omega
    have q2:(j%n*n+j/n)/n=j%n:=by rw [Nat.mul_comm,Nat.mul_add_div hn,Nat.div_eq_of_lt d3];omega
    have q3:(i%n*n+i/n)%n=i/n:=by rw [Nat.mul_comm,Nat.mul_add_mod,Nat.mod_eq_of_lt d1]
    have q4:(j%n*n+j/n)%n=j/n:=by rw [Nat.mul_comm,Nat.mul_add_mod,Nat.mod_eq_of_lt d3]
    rw [e] at q1 q3
    have r1:i%n=j%n:=by rw [←q1,q2]
    have r2:i/n=j/n:=by rw [←q3,q4]
    rw [←Nat.div_add_mod i n,←Nat.div_add_mod j n,r1,r2]
  have hnot:=Aiq (n*n) fun k=>cov n f (k/n) (k%n)
  have:n*n≤10*10:=Nat.mul_le_mul h10 h10
  omega
theorem A4n (hf:Ord n f) : ∀a b,a<n→b<n→A1d n (Gy n f n) a b=f a b:=by
 intro a b ha hb
 rw [Bool.eq_iff_iff]
 have hp : ∀a b,a<n→b<n→(Acb (dg n) (Gy n f n) (Gy n f n).length a b=true↔a=b∨cov n f a b=true):=fun a b ha hb=>by
  rw [Azi]
  constructor
  ·rintro (h | ⟨i,hi,h1,h2⟩)
   ·exact .inl (of_decide_eq_true h).1
   ·obtain ⟨x,y,hx,hy,hc,e⟩:=(Aan _ n).1 (Ba hi)
    rw [e] at h1 h2
    dsimp only at h1 h2
    rw [tna0] at h1 h2
    rw [←h1,←h2];exact .inr hc
  ·rintro (h | h)
   ·exact .inl (dtr0 ⟨h,ha⟩)
   ·obtain ⟨i,hi,e⟩:=Hu.1 ((Aan ((a:Int),(b:Int)) n).2 ⟨a,b,ha,hb,h,rfl⟩)
    exact .inr ⟨i,hi,by rw [e];rfl,by rw [e];rfl⟩
 unfold A1d
 constructor
 ·intro h
  refine Ah6 (fun a b c ha hb hc=>hf.trans a b c ha hb hc) (fun a b ha hb h=> ?_) n (Nat.le_refl n) a b ha hb h
  rcases (hp a b ha hb).1 h with e | e
  ·rw [e];exact hf.refl b hb
  ·exact (Ai8 e).2
 ·-- by the elements between
  have key : ∀k a b,a<n→b<n→f a b=true→Bz n (fun z=>f a z&&f z b)≤k→wz n (Acb (dg n) (Gy n f n) (Gy n f n).length) n a b=true:=by
   intro k
   induction k with
   | zero=>
     intro a b ha hb h hk
     have:=N3 (n:=n) (p:=fun z=>f a z&&f z b) ha (by rw [hf.refl a ha,h];rfl)
     omega
   | succ k ih=>
     intro a b ha hb h hk
     by_cases e:a=b
     ·exact Atp n a b ha hb ((hp a b ha hb).2 (.inl e))
     ·by_cases hc:cov n f a b=true
      ·exact Atp n a b ha hb ((hp a b ha hb).2 (.inr hc))
      ·obtain ⟨z,hz,⟨z1,z2⟩,z3,z4⟩ : ∃z,z<n∧(a≠z∧f a z=true)∧(z≠b∧f z b=true):=by
        refine Classical.byContradiction fun hno=>hc (dtr0 ⟨⟨e,h⟩,fun z hz hh=>hno ⟨z,hz,hh⟩⟩)
       have c1:Bz n (fun w=>f a w&&f w z)<Bz n fun w=>f a w&&f w b:=by
        have h1:=Gx n (fun w=>f a w&&f w b) fun w=>f w z
        have h2:Bz n (fun w=>f a w&&f w z)≤Bz n fun w=>(f a w&&f w b)&&f w z:=Ir fun w hw hh=>by
         rw [Bool.and_eq_true] at hh
         rw [hh.1,hh.2,hf.trans w z b hw hz hb hh.2 z4];rfl
        have h3:=N3 (n:=n) (p:=fun w=>(f a w&&f w b) && !f w z) hb (by
         have:f b z=false:=by
          cases hbz:f b z with
          | false=>rfl
          | true=>exact absurd (hf.anti z b hz hb z4 hbz) z3
         rw [h,hf.refl b hb,this];rfl)
        omega
       have c2:Bz n (fun w=>f z w&&f w b)<Bz n fun w=>f a w&&f w b:=by
        have h1:=Gx n (fun w=>f a w&&f w b) fun w=>f z w
        have h2:Bz n (fun w=>f z w&&f w b)≤Bz n fun w=>(f a w&&f w b)&&f z w:=Ir fun w hw hh=>by
         rw [Bool.and_eq_true] at hh
         rw [hh.1,hh.2,hf.trans a z w ha hz hw z2 hh.1];rfl
        have h3:=N3 (n:=n) (p:=fun w=>(f a w&&f w b) && !f z w) ha (by
         have:f z a=false:=by
          cases hbz:f z a with
          | false=>rfl
          | true=>exact absurd (hf.anti a z ha hz z2 hbz) z1
         rw [h,hf.refl a ha,this];rfl)
        omega
       exact Av1 n (Nat.le_refl n) z hz a b ha hb (ih a z ha hz z2 (by omega)) (ih z b hz hb z4 (by omega))
  exact fun h=>key _ a b ha hb h (Nat.le_refl _)
end
end Go.Proofs.Ytpfikenknmlajaa.Ax
namespace Go.Proofs.Ytpfikenknmlajaa.Ax
open Go Classical
section
variable {p:SPoset} (hs:small p) (hg:good p.Below)
include hs hg
theorem At6:I0 p=some (Hv p.Below.length (rel (below p.Below) true),true):=by
 have h10:=hg.1
 unfold I0
 rw [Hs p hs.1 hs.2 hg]
 simp only [obs0,if_true]
 rw [Ara (W3 hg) (by omega)]
 rfl
theorem Ap4:Ih p=some (Gy p.Below.length (below p.Below) p.Below.length,true):=by
 unfold Ih
 rw [Hs p hs.1 hs.2 hg]
 simp only [obs0,if_true]
 rw [As6 hg.1]
 rfl
theorem Agp:Hd p=some (Kl p,true):=by
 unfold Hd
 rw [Hs p hs.1 hs.2 hg]
 simp only [obs0,if_true]
 rw [Atu hs.1]
 simp only [obs0]
 rw [Aep hs.1]
 rfl
theorem Awj {a b:Nat} (ha:a<p.Below.length) (hb:b<p.Below.length):J3 p (a:Int) (b:Int)=some (below p.Below a b,true):=by
 unfold J3
 rw [Hs p hs.1 hs.2 hg]
 have tl:=Bw p.Below.length (below p.Below)
 simp only [obs0,if_true]
 rw [A7f _ _ (by rw [Ao];simp),tl]
 simp only [obs0]
 have hi:Fy [(a:Int),(b:Int)] p.Below.length:=by intro z hz;simp at hz;rcases hz with rfl | rfl<;>omega
 have rl:=Abv p.Below.length (below p.Below) a ha
 rw [dtr0 hi,if_pos rfl,Ae (by omega),Ae (by omega),Ah5 _ _ _ _ ha hb]
 rfl
theorem U1:Ds p=some (Al p.Below.length fun x=>decide ((nth p.Below x).length=1),true):=by
 unfold Ds
 rw [Hs p hs.1 hs.2 hg]
 have tl:=Bw p.Below.length (below p.Below)
 simp only [obs0,if_true]
 rw [At0 (n:=p.Below.length) (p:=fun x=>decide ((nth p.Below x).length=1)) tl hs.1 (fun x hx=>by
  unfold Gf
  rw [Ay0 (n:=p.Below.length) (p:=fun y=>decide (y≠x)&&below p.Below y x) tl hs.1 (fun y hy=>by
   unfold Fh
   rw [M6 _ _ _ _ hy hx];rfl)]
  simp only [obs0]
  congr 1
  rw [decide_eq_decide,Ard hg x hx]
  constructor
  ·intro h y hy hc
   have:=h y hy
   simp [hc.1,hc.2] at this
  ·intro h y hy
   cases hb:(decide (y≠x)&&below p.Below y x) with
   | false=>rfl
   | true=>
     simp at hb
     exact absurd ⟨hb.1,hb.2⟩ (h y hy))]
 rfl
theorem Ae5:Dt p=some (Al p.Below.length fun x=>decide ((nth (Kl p).Below x).length=1),true):=by
 unfold Dt
 rw [Hs p hs.1 hs.2 hg]
 have tl:=Bw p.Below.length (below p.Below)
 simp only [obs0,if_true]
 rw [At0 (n:=p.Below.length) (p:=fun x=>decide ((nth (Kl p).Below x).length=1)) tl hs.1 (fun x hx=>by
  unfold Gg
  rw [Ay0 (n:=p.Below.length) (p:=fun y=>decide (x≠y)&&below p.Below x y) tl hs.1 (fun y hy=>by
   unfold Fa
   rw [M6 _ _ _ _ hx hy];rfl)]
  simp only [obs0]
  congr 1
  rw [decide_eq_decide,Ard (Y9 hg) x (by rw [Fb];exact hx),Fb]
  constructor
  ·intro h y hy hc
   have:=h y hy
   rw [Hf hx hy] at hc
   simp [Ne.symm hc.1,hc.2] at this
  ·intro h y hy
   cases hb:(decide (x≠y)&&below p.Below x y) with
   | false=>rfl
   | true=>
     simp at hb
     exact absurd ⟨Ne.symm hb.1,by rw [Hf hx hy];exact hb.2⟩ (h y hy))]
 rfl
theorem T9:Bx p=some (nth (Eh p.Below.length (below p.Below) (2^p.Below.length)) (2^p.Below.length-1),true):=by
 have h10:p.Below.length≤10:=hg.1
 have htl:=Bw p.Below.length (below p.Below)
 have hpw:=To (show p.Below.length≤20 by omega)
 have hpos:0<2^p.Below.length:=Nat.pow_pos (by omega)
 have hend:=(Acu (f:=below p.Below) h10 (2^p.Below.length) (Nat.le_refl _)).len
 unfold Bx
 rw [Hs p hs.1 hs.2 hg]
 simp only [obs0,if_true,htl,Lz (show p.Below.length≤20 by omega),tna0]
 have k2:Aj (A5 (tab p.Below.length (below p.Below),true)) (0,(List.replicate (2^p.Below.length) (0:Int)).set (Int.toNat 0) 1)=some (Eh p.Below.length (below p.Below) (2^p.Below.length)):=
  Az (body:=A5 (tab p.Below.length (below p.Below),true)) (fun m=>((m:Int),Eh p.Below.length (below p.Below) m)) (2^p.Below.length) _ (fun m hm=>by
   unfold A5
   dsimp only
   have hl:=(Acu (f:=below p.Below) h10 m (by omega)).len
   rw [htl,Lz (by omega),tna0,List.length_set,List.length_replicate,if_pos (by omega),Ae (by omega),Ala hg hm true]
   simp only [obs0]
   rw [Ae (by unfold InI;omega)];rfl) (by
   unfold A5
   dsimp only
   rw [htl,Lz (by omega),tna0,List.length_set,List.length_replicate,if_neg (by omega)])
 rw [k2]
 simp only [obs0,hend]
 generalize 2^p.Below.length=N at *
 repeat rw [Ae (by first | omega | (rw [Ao];omega) | (unfold InI;omega))]
 rw [show ((N:Int)-1).toNat=N-1 by omega]
omit hs in
theorem Aqq:H8 (p.Below.length:Int) (Gy p.Below.length (below p.Below) p.Below.length)=some (p,true):=by
 have h10:p.Below.length≤10:=hg.1
 have hO:=Aoi hg
 have hfew:=Awv hO h10
 have same:G0 p.Below.length (A1d p.Below.length (Gy p.Below.length (below p.Below) p.Below.length))=p:=by
  rw [Aus (g:=below p.Below) fun x y hx hy=>A4n hO x y hx hy,Aw3 hg]
 unfold H8
 rw [if_neg (by omega),if_neg (by omega),if_neg (by omega),Agi _ (by rw [Ao];omega)]
 simp only [obs0]
 rw [A7x h10 _ (Bw _ _)]
 simp only [obs0]
 rcases A71 (ps:=Gy p.Below.length (below p.Below) p.Below.length) h10 (by omega) with ⟨_,i,hi,hb⟩ | ⟨e2,_⟩
 ·refine absurd ?_ hb
  obtain ⟨a,b,ha,hb,hc,e⟩:=(Aan (n:=p.Below.length) (f:=below p.Below) _ _).1 (Ba hi)
  rw [e]
  have:=(Ai8 hc).1
  exact ⟨⟨⟨by dsimp only;omega,by dsimp only;omega⟩,by dsimp only;omega,by dsimp only;omega⟩,by dsimp only;omega⟩
 ·rw [e2]
  simp only [obs0]
  rw [A8g h10 _ (Bw _ _)]
  simp only [obs0]
  have hgi:=Axt (n:=p.Below.length) (f:=A1d p.Below.length (Gy p.Below.length (below p.Below) p.Below.length)) h10
  rw [same] at hgi
  rw [Ary _ _ (by rw [Ao];omega)]
  simp only [obs0]
  rw [dtr0 (show Am4 p.Below.length (wz p.Below.length (Acb (dg p.Below.length) (Gy p.Below.length (below p.Below) p.Below.length) (Gy p.Below.length (below p.Below) p.Below.length).length) p.Below.length) from hgi.1 hg),if_pos rfl,Aep (by rw [Ao];omega)]
  exact congrArg (fun q=>some (q,true)) same
theorem A3x:Bx (Kl p)=some (nth (Eh p.Below.length (below p.Below) (2^p.Below.length)) (2^p.Below.length-1),true):=by
 rw [T9 (Afv hs) (Y9 hg),Fb,A0o (n:=p.Below.length) (f:=below p.Below),Amx (g:=fun y x=>below p.Below x y) fun x y hx hy=>Hf hy hx]
theorem A4e:Dt (Kl p)=Ds p:=by
 rw [U1 hs hg,Ae5 (Afv hs) (Y9 hg),Arr hg,Fb]
theorem Acp:Cm p=some (bst p.Below.length (below p.Below) (2^p.Below.length),true)∧Cr p=some (bst p.Below.length (below p.Below) (2^p.Below.length),true):=by
 unfold Cm Cr
 rw [Tg p hs.1 hs.2,Hs p hs.1 hs.2 hg,dtr0 hg]
 simp only [obs0,if_true]
 rw [A0z hs hg.1,Aq3 hg.1]
 exact ⟨rfl,rfl⟩
end
end Go.Proofs.Ytpfikenknmlajaa.Ax
