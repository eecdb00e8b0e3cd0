/-
 Plain facts, joined.
-/
import Derived.Test.YtmmcfdfdacpjgaaPA
namespace Go.Proofs.Ytmmcfdfdacpjgaa.Ax
open Go Classical
def A5a (m i:Nat):Bool:=decide (m/2^i%2=1)
def Pk (a b:List Int):Prop := ∃i,i<a.length∧(∀j,j<i→nth a j=nth b j)∧nth a i<nth b i
theorem Aad {a b:List Int} (hl:a.length=b.length) (h:a.length≤LIM):I3 a b=some (decide (Pk a b)):=by
 unfold I3
 rw [Av] at h
 rw [show ((0:Int))=(((0:Nat)):Int) from rfl]
 rcases V5 (body:=Er a b) (fun i=>(i:Int)) a.length (fun i=>nth a i≠nth b i) (fun i=> .inl (decide (nth a i<nth b i))) (.inr ()) (fun i hi hh=>by
   unfold Er
   rw [if_pos (by omega),Ag (by omega),Ag (by omega),Int.toNat_natCast,if_neg hh,Ag (by unfold InI;omega)];rfl) (fun i hi hh=>by
   unfold Er
   rw [if_pos (by omega),Ag (by omega),Ag (by omega),Int.toNat_natCast,if_pos hh,Ag (by omega),Ag (by omega)]) (by
   unfold Er
   rw [if_neg (by omega)]) with ⟨i,hi,hh,hf,e⟩ | ⟨hn,e⟩
 ·rw [e]
  simp only [Option.bind_some]
  congr 1
  rw [decide_eq_decide]
  constructor
  ·intro hlt
   exact ⟨i,hi,fun j hj=>Classical.not_not.1 (hf j hj),hlt⟩
  ·rintro ⟨k,hk,h1,h2⟩
   rcases Nat.lt_trichotomy k i with hki | hki | hki
   ·have:=Classical.not_not.1 (hf k hki);omega
   ·subst hki;exact h2
   ·exact absurd (h1 i hki) hh
 ·rw [e,decide_eq_false]
  ·rfl
  ·rintro ⟨k,hk,_,h2⟩
   have:=Classical.not_not.1 (hn k hk);omega
theorem Zx {a b:List Int} (hl:a.length=b.length) (h:a.length≤LIM) : ∃c,Fu a b=some c∧(¬c≥0↔Pk a b):=by
 unfold Fu
 rw [Av] at h
 rw [show ((0:Int))=(((0:Nat)):Int) from rfl]
 rcases V5 (body:=Ck a b) (fun i=>(i:Int)) a.length (fun i=>nth a i≠nth b i) (fun i=> .inl (if nth a i<nth b i then -1 else 1)) (.inr ()) (fun i hi hh=>by
   unfold Ck
   rw [if_pos (by omega),if_pos (by omega)]
   simp only [Option.bind_some]
   rw [Ag (by omega),Ag (by omega),Int.toNat_natCast,if_neg hh,Ag (by unfold InI;omega)];rfl) (fun i hi hh=>by
   unfold Ck
   rw [if_pos (by omega),if_pos (by omega)]
   simp only [Option.bind_some]
   rw [Ag (by omega),Ag (by omega),Int.toNat_natCast,if_pos hh,Ag (by omega),Ag (by omega)]
   split<;>rfl) (by
   unfold Ck
   rw [if_neg (by omega)];rfl) with ⟨i,hi,hh,hf,e⟩ | ⟨hn,e⟩
 ·rw [e]
  refine ⟨_,rfl,?_⟩
  constructor
  ·intro hlt
   refine ⟨i,hi,fun j hj=>Classical.not_not.1 (hf j hj),?_⟩
   by_cases hc:nth a i<nth b i
   ·exact hc
   ·rw [if_neg hc] at hlt;omega
  ·rintro ⟨k,hk,h1,h2⟩
   have hki:k=i:=by
    rcases Nat.lt_trichotomy k i with hki | hki | hki
    ·have:=Classical.not_not.1 (hf k hki);omega
    ·exact hki
    ·exact absurd (h1 i hki) hh
   subst hki
   rw [if_pos h2];omega
 ·rw [e]
  simp only [Option.bind_some]
  rw [if_neg (by omega),if_neg (by omega)]
  refine ⟨_,rfl,?_⟩
  constructor
  ·intro hc;omega
  ·rintro ⟨k,hk,_,h2⟩
   have:=Classical.not_not.1 (hn k hk);omega
def anti (f:Nat→Nat→Bool) (ls:List Int):Prop := ∀x∈ls,∀y∈ls,¬(x.toNat≠y.toNat∧f x.toNat y.toNat=true)
end Go.Proofs.Ytmmcfdfdacpjgaa.Ax
namespace Go.Proofs.Ytmmcfdfdacpjgaa.Ax
open Go Classical
def pc (n m:Nat):Nat:=(A8 n (A5a m)).length
theorem Av9 {q q':Nat→Bool} {x:Nat} (hq:q x=false) (h : ∀i,q' i=(q i || decide (x=i))) : ∀n,(A8 n q').length=(A8 n q).length+if x<n then 1 else 0:=by
 intro n
 induction n with
 | zero=>simp [A8]
 | succ n ih=>
   rw [W5,W5,h n]
   by_cases hxn:x=n
   ·subst hxn
    rw [hq]
    simp only [decide_true,Bool.or_true,if_true,Bool.false_eq_true,if_false]
    rw [List.length_append,ih,if_neg (by omega),if_pos (by omega)];rfl
   ·rw [decide_eq_false hxn,Bool.or_false]
    by_cases hqn:q n=true
    ·rw [if_pos hqn,if_pos hqn,List.length_append,List.length_append,ih]
     by_cases hx:x<n
     ·rw [if_pos hx,if_pos (by omega)];simp
     ·rw [if_neg hx,if_neg (by omega)];rfl
    ·rw [if_neg hqn,if_neg hqn,ih]
     by_cases hx:x<n
     ·rw [if_pos hx,if_pos (by omega)]
     ·rw [if_neg hx,if_neg (by omega)]
def wt (n m:Nat):Nat:=10^(10-pc n m)
def phi (n:Nat) (ws:List Int):Nat→Nat→Int
 | _,0=>0
 | M,k+1=>nth ws M*wt n M+phi n ws (M+1) k
section
variable {n:Nat} {f:Nat→Nat→Bool}
structure okW (n m:Nat) (ws:List Int):Prop where
 len:ws.length=2^n
 pos : ∀i,i<ws.length→0≤nth ws i
 sum:phi n ws m (2^n-m)≤10000000000
end
end Go.Proofs.Ytmmcfdfdacpjgaa.Ax
namespace Go.Proofs.Ytmmcfdfdacpjgaa.Ax
open Go Classical
end Go.Proofs.Ytmmcfdfdacpjgaa.Ax
namespace Go.Proofs.Ytmmcfdfdacpjgaa.Ax
open Go Classical
end Go.Proofs.Ytmmcfdfdacpjgaa.Ax
namespace Go.Proofs.Ytmmcfdfdacpjgaa.Ax
open Go Classical
theorem Ash {xs:List Int}:Agr xs↔xs.Pairwise (· < ·):=by
 constructor
 ·intro h
  refine List.pairwise_iff_getElem.2 fun i j hi hj hij=> ?_
  have:=Ajz h hij hj
  rwa [D6 hi,D6 hj] at this
 ·intro h i h1 h2
  have:=List.pairwise_iff_getElem.1 h (i-1) i (by omega) h2 (by omega)
  rwa [D6 (by omega),D6 h2]
noncomputable def A4v (n:Nat) (g h:Nat→Nat→Nat) (S:Nat→Bool):Nat→Bool:=fun z=>decide (S z=true ∨ ∃x y,x<n∧y<n∧S x=true∧S y=true∧(z=g x y∨z=h x y))
noncomputable def Aqf (n:Nat) (g h:Nat→Nat→Nat) (S:Nat→Bool):Nat→Nat→Bool
 | 0=>S
 | k+1=>A4v n g h (Aqf n g h S k)
section
variable {n:Nat} {g h:Nat→Nat→Nat} {S:Nat→Bool}
def A5b (n:Nat) (g h:Nat→Nat→Nat) (S:Nat→Bool) (k:Nat):Prop := ∀z,z<n→Aqf n g h S (k+1) z=Aqf n g h S k z
noncomputable def closed (n:Nat) (g h:Nat→Nat→Nat) (S:Nat→Bool):Nat→Bool:=Aqf n g h S n
def A48 (n:Nat) (S:Nat→Bool):List Nat:=(List.range n).filter S
end
end Go.Proofs.Ytmmcfdfdacpjgaa.Ax
namespace Go.Proofs.Ytmmcfdfdacpjgaa.Ax
open Go Classical
theorem Asp {xs ys:List Int} (h:xs.length≤LIM):K9 xs ys=some (decide (xs=ys)):=by
 unfold K9
 rw [Av] at h
 split
 ·rename_i hl
  rw [decide_eq_false]
  rintro rfl;exact hl rfl
 rename_i hl
 have hl:xs.length=ys.length:=by omega
 have:=Eo (body:=Ez xs ys) (fun i=>(i:Int)) xs.length (fun i=>¬nth xs i=nth ys i) () () (fun i hi hb=>by
  unfold Ez
  rw [if_pos (by omega),Ag (by omega),Ag (by omega)]
  simp only [Int.toNat_natCast]
  rw [if_neg (by simpa using hb),Ag (by unfold InI;omega)];rfl) (fun i hi hb=>by
  unfold Ez
  rw [if_pos (by omega),Ag (by omega),Ag (by omega)]
  simp only [Int.toNat_natCast]
  rw [if_pos hb]) (by unfold Ez;rw [if_neg (by omega)]) 0 (by omega)
 show ((Am _ ((0:Nat):Int)).bind _)=_
 rw [this]
 by_cases hx : ∃i,0≤i∧i<xs.length∧¬nth xs i=nth ys i
 ·rw [if_pos hx,decide_eq_false]
  ·rfl
  ·rintro rfl;obtain ⟨i,_,_,hc⟩:=hx;exact hc rfl
 ·rw [if_neg hx,decide_eq_true (Pf hl (Rp.1 hx))]
  rfl
theorem A4a {n:Nat} {S:Nat→Bool} {z k:Nat} (hz:z<n) (hk:k≤(A8 n S).length) (h1 : ∀j,j<k→nth (A8 n S) j<(z:Int)) (h2:k<(A8 n S).length→(z:Int)<nth (A8 n S) k) :
  (A8 n S).take k++[(z:Int)]++(A8 n S).drop k=A8 n fun a=>decide (S a=true∨a=z):=by
 have hr:=Agx n S
 have e:=List.take_append_drop k (A8 n S)
 refine Av8 (Ash.2 ?_) (Agx _ _) fun x=> ?_
 ·rw [List.append_assoc,List.pairwise_append]
  have hp:=Ash.1 hr
  rw [←e,List.pairwise_append] at hp
  have ht : ∀a∈(A8 n S).take k,a<(z:Int):=by
   intro a ha
   obtain ⟨j,hj,rfl⟩:=Gv.1 ha
   have hj':j<k:=by rw [List.length_take] at hj;omega
   have:=h1 j hj'
   rw [D6 hj,List.getElem_take]
   rwa [D6 (by omega)] at this
  have hd : ∀a∈(A8 n S).drop k,(z:Int)<a:=by
   intro a ha
   obtain ⟨j,hj,rfl⟩:=Gv.1 ha
   rw [List.length_drop] at hj
   have h3:=h2 (by omega)
   have h4:nth ((A8 n S).drop k) j=nth (A8 n S) (k+j):=by
    rw [D6 (by rw [List.length_drop];omega),D6 (by omega),List.getElem_drop]
   rw [h4]
   by_cases hj0:j=0
   ·subst hj0;exact h3
   ·have:=Ajz hr (i:=k) (j:=k+j) (by omega) (by omega);omega
  refine ⟨hp.1,?_,?_⟩
  ·rw [List.singleton_append,List.pairwise_cons]
   exact ⟨hd,hp.2.1⟩
  ·intro a ha b hb
   rcases List.mem_append.1 hb with hb | hb
   ·rw [List.mem_singleton.1 hb];exact ht a ha
   ·exact hp.2.2 a ha b hb
 ·have hm:x∈A8 n S↔x∈(A8 n S).take k∨x∈(A8 n S).drop k:=by rw [←List.mem_append,e]
  rw [List.mem_append,List.mem_append,List.mem_singleton]
  have:(x∈A8 n S∨x=(z:Int))↔x∈A8 n fun a=>decide (S a=true∨a=z):=by
   rw [Rl,Rl]
   constructor
   ·rintro (⟨i,a,b,rfl⟩ | rfl)
    ·exact ⟨i,a,decide_eq_true (.inl b),rfl⟩
    ·exact ⟨z,hz,decide_eq_true (.inr rfl),rfl⟩
   ·rintro ⟨i,a,b,rfl⟩
    rcases of_decide_eq_true b with c | c
    ·exact .inl ⟨i,a,c,rfl⟩
    ·exact .inr (by omega)
  rw [←this,hm]
  constructor
  ·rintro ((h | h) | h)
   ·exact .inl (.inl h)
   ·exact .inr h
   ·exact .inl (.inr h)
  ·rintro ((h | h) | h)
   ·exact .inl (.inl h)
   ·exact .inr h
   ·exact .inl (.inr h)
theorem A3y {n:Nat} {S:Nat→Bool} {z k:Nat} (hk:k<(A8 n S).length) (h:nth (A8 n S) k=(z:Int)):A8 n S=A8 n fun a=>decide (S a=true∨a=z):=by
 obtain ⟨i,a,b,c⟩:=Rl.1 (As hk)
 rw [h] at c
 refine Ag8 fun j _=> ?_
 by_cases hj:j=z
 ·have:j=i:=by omega
  subst this
  rw [b];exact (decide_eq_true (.inl rfl)).symm
 ·cases hS:S j<;>simp [hj]
theorem A2b {n:Nat} (hn:n≤1000) (S:Nat→Bool) {z:Nat} (hz:z<n):Mr (A8 n S) (z:Int)=some (A8 n fun a=>decide (S a=true∨a=z)):=by
 unfold Mr
 have hl:=Afj n S
 rw [show ((0:Int))=(((0:Nat)):Int) from rfl]
 have key : ∃k:Nat,k≤(A8 n S).length∧(∀j,j<k→nth (A8 n S) j<(z:Int))∧(k<(A8 n S).length→¬nth (A8 n S) k<(z:Int))∧Am (Eb (A8 n S) (z:Int)) (((0:Nat)):Int)=some (k:Int):=by
  rcases V5 (body:=Eb (A8 n S) (z:Int)) (fun i=>(i:Int)) (A8 n S).length (fun i=>¬nth (A8 n S) i<(z:Int)) (fun i=>(i:Int)) ((A8 n S).length:Int) (fun i hi hh=>by
    unfold Eb
    rw [if_pos (by omega),Ag (by omega),Int.toNat_natCast,if_pos (Classical.not_not.1 hh),Ag (by unfold InI;omega)];rfl) (fun i hi hh=>by
    unfold Eb
    rw [if_pos (by omega),Ag (by omega),Int.toNat_natCast,if_neg hh]) (by
    unfold Eb
    rw [if_neg (by omega)]) with ⟨i,hi,hh,hj,e⟩ | ⟨hno,e⟩
  ·exact ⟨i,by omega,fun j h=>Classical.not_not.1 (hj j h),fun _=>hh,e⟩
  ·exact ⟨_,Nat.le_refl _,fun j h=>Classical.not_not.1 (hno j h),fun h=>absurd h (Nat.lt_irrefl _),e⟩
 obtain ⟨k,hk,h1,h2,e⟩:=key
 rw [e]
 simp only [Option.bind_some]
 have tail:(¬k<(A8 n S).length∨nth (A8 n S) k≠(z:Int))→(ask (0≤(((0:Nat)):Int)∧(((0:Nat)):Int)≤(k:Int)∧(k:Int)≤(((A8 n S).length:Nat):Int)) <|
   ask ((Ar Int).length+(List.take ((k:Int).toNat-Int.toNat ((((0:Nat)):Int))) (List.drop (Int.toNat ((((0:Nat)):Int))) (A8 n S))).length≤LIM) <|
   ask ((Ar Int++List.take ((k:Int).toNat-Int.toNat ((((0:Nat)):Int))) (List.drop (Int.toNat ((((0:Nat)):Int))) (A8 n S))).length+([(z:Int)]).length≤LIM) <|
   ask (0≤(k:Int)∧(k:Int)≤((A8 n S).length:Int)∧((A8 n S).length:Int)≤(((A8 n S).length:Nat):Int)) <|
   ask ((Ar Int++List.take ((k:Int).toNat-Int.toNat ((((0:Nat)):Int))) (List.drop (Int.toNat ((((0:Nat)):Int))) (A8 n S))++[(z:Int)]).length+(List.take (((A8 n S).length:Int).toNat-(k:Int).toNat) (List.drop (k:Int).toNat (A8 n S))).length≤LIM) <|
   some (Ar Int++List.take ((k:Int).toNat-Int.toNat ((((0:Nat)):Int))) (List.drop (Int.toNat ((((0:Nat)):Int))) (A8 n S))++[(z:Int)]++List.take (((A8 n S).length:Int).toNat-(k:Int).toNat) (List.drop (k:Int).toNat (A8 n S))))=some (A8 n fun a=>decide (S a=true∨a=z)):=by
  intro h3
  simp only [Int.toNat_natCast,List.drop_zero,Nat.sub_zero,List.nil_append]
  have ed:List.take ((A8 n S).length-k) (List.drop k (A8 n S))=List.drop k (A8 n S):=List.take_of_length_le (by rw [List.length_drop];omega)
  rw [ed]
  have ht:(List.take k (A8 n S)).length≤1000:=by rw [List.length_take];omega
  have hd:(List.drop k (A8 n S)).length≤1000:=by rw [List.length_drop];omega
  rw [Ag (by omega),Ag (by rw [Av];simp only [List.length_nil];omega),Ag (by rw [Av];simp only [List.length_cons,List.length_nil];omega),Ag (by omega),Ag (by rw [Av];simp only [List.length_append,List.length_cons,List.length_nil];omega)]
  rw [A4a hz hk h1 fun h=>by have h4:=h2 h;rcases h3 with h3 | h3<;>omega]
 by_cases hkl:k<(A8 n S).length
 ·rw [if_pos (by omega),Ag (by omega),Int.toNat_natCast]
  by_cases hv:nth (A8 n S) k=(z:Int)
  ·rw [if_pos hv]
   simp only [Option.bind_some]
   rw [←A3y hkl hv]
  ·rw [if_neg hv]
   exact tail (.inr hv)
 ·rw [if_neg (by omega)]
  exact tail (.inl hkl)
theorem Azk {n:Nat} (hn:n≤LIM) (S:Nat→Bool):K7 (Ye n S)=some (A8 n S):=by
 unfold K7
 have hn':=hn
 rw [Av] at hn'
 have hl:=Ajs n S
 rw [Aud n S (fun i acc hi ha=>by
  unfold Hy
  dsimp only
  rw [if_pos (by omega),Ag (by omega),Int.toNat_natCast,Ail hi]
  by_cases hp:S i=true
  ·rw [if_pos hp,if_pos hp,Ag (by rw [Av];simp;omega),Ag (by unfold InI;omega)];rfl
  ·rw [if_neg hp,if_neg hp,Ag (by unfold InI;omega)];rfl) (fun acc=>by
  unfold Hy
  dsimp only
  rw [if_neg (by omega)])]
 rfl
end Go.Proofs.Ytmmcfdfdacpjgaa.Ax
namespace Go.Proofs.Ytmmcfdfdacpjgaa.Ax
open Go Classical
def Ku (a:SAlgebra):Prop:=a.Ops.length≤1048576 ∧ ∀f∈a.Ops,f.Table.length≤1048576
end Go.Proofs.Ytmmcfdfdacpjgaa.Ax
namespace Go.Proofs.Ytmmcfdfdacpjgaa.Ax
open Go Classical
def Apn (n:Nat) (f:SOp):Prop:=0≤f.Arity∧f.Arity≤3∧f.Table.length=n^f.Arity.toNat∧Bh f.Table n
def Dp (a:SAlgebra):Prop:=1≤a.Size∧a.Size≤8∧a.Ops.length≤4 ∧ ∀f∈a.Ops,Apn a.Size.toNat f
theorem Wn {n k:Nat} (hn:n≤8) (hk:k≤3):n^k≤512:=
 Nat.le_trans (Nat.pow_le_pow_left hn k) (Nat.le_trans (Nat.pow_le_pow_right (by omega) hk) (by decide))
theorem Au9 {n k:Nat} (hn:n≤8) (hk:k≤3):G7 n k=some ((n^k:Nat):Int):=by
 unfold G7
 have key:=B9 (body:=Fi n) (fun j=>(((n^j:Nat):Int),((k:Int)-(j:Int)))) k ((n^k:Nat):Int) (fun j hj=>by
  unfold Fi
  dsimp only
  have hp:=Wn hn (show j+1≤3 by omega)
  rw [Nat.pow_succ] at hp
  rw [if_pos (by omega),←Int.natCast_mul,Nat.pow_succ]
  generalize n^j*n=N at hp ⊢
  rw [Ag (by unfold InI;omega),Ag (by unfold InI;omega),show ((k:Int)-(j:Int)-1)=(k:Int)-((j+1:Nat):Int) by omega]) (by
  unfold Fi
  dsimp only
  rw [if_neg (by omega)])
 have key':Am (Fi n) (1,(k:Int))=some ((n^k:Nat):Int):=by simpa using key
 rw [key'];rfl
theorem Aps {n k:Nat} (hn:n≤8) (hk:k≤3):F1 n k=some ((n^k:Nat):Int):=by
 unfold F1
 have key:=B9 (body:=Fk n) (fun j=>(((n^j:Nat):Int),((k:Int)-(j:Int)))) k ((n^k:Nat):Int) (fun j hj=>by
  unfold Fk
  dsimp only
  have hp:=Wn hn (show j+1≤3 by omega)
  rw [Nat.pow_succ] at hp
  rw [if_pos (by omega),←Int.natCast_mul,Nat.pow_succ]
  generalize n^j*n=N at hp ⊢
  rw [Ag (by unfold InI;omega),Ag (by unfold InI;omega),show ((k:Int)-(j:Int)-1)=(k:Int)-((j+1:Nat):Int) by omega]) (by
  unfold Fk
  dsimp only
  rw [if_neg (by omega)])
 have key':Am (Fk n) (1,(k:Int))=some ((n^k:Nat):Int):=by simpa using key
 rw [key'];rfl
theorem Ayj {n:Nat} (hn:n≤8) {f:SOp} (hl:f.Table.length≤LIM):Pp f n=some (decide (Apn n f)):=by
 unfold Pp
 by_cases h0:0≤f.Arity
 ·rw [if_pos (show f.Arity≥0 from h0)]
  by_cases h3:f.Arity≤3
  ·have e:G7 (n:Int) f.Arity=some ((n^f.Arity.toNat:Nat):Int):=by
    have:=Au9 hn (k:=f.Arity.toNat) (by omega)
    rwa [show ((f.Arity.toNat:Nat):Int)=f.Arity by omega] at this
   rw [if_pos h3,e]
   simp only [Option.bind_some]
   by_cases hL:f.Table.length=n^f.Arity.toNat
   ·rw [if_pos (by rw [hL]),Zq _ _ hl]
    simp only [Option.bind_some]
    congr 1
    rw [decide_eq_decide]
    exact ⟨fun h=>⟨h0,h3,hL,h⟩,fun h=>h.2.2.2⟩
   ·rw [if_neg (fun hc=>hL (Int.ofNat_inj.1 hc)),decide_eq_false (fun h=>hL h.2.2.1)]
  ·rw [if_neg h3,decide_eq_false (fun h=>h3 h.2.1)]
 ·rw [if_neg (by omega),decide_eq_false (fun h=>h0 h.1)]
theorem Azb {n:Nat} (hn1:1≤n) (hn:n≤8) {f:SOp} (hl:f.Table.length≤LIM):Pw n f=some (decide (Apn n f)):=by
 unfold Pw
 rw [Ui]
 simp only [Option.bind_some]
 by_cases h0:0≤f.Arity∧f.Arity≤3
 ·have e:F1 (n:Int) f.Arity=some ((n^f.Arity.toNat:Nat):Int):=by
   have:=Aps hn (k:=f.Arity.toNat) (by omega)
   rwa [show ((f.Arity.toNat:Nat):Int)=f.Arity by omega] at this
  rw [decide_eq_true h0,if_pos rfl,e]
  simp only [Option.bind_some]
  by_cases hL:f.Table.length=n^f.Arity.toNat
  ·rw [if_neg (by rw [hL];simp)]
   simp only [Option.bind_some]
   have hl':=hl
   rw [Av] at hl'
   have this:=Eo (body:=Gt n f) (fun i=>(i:Int)) f.Table.length (fun i=>¬(0≤nth f.Table i∧nth f.Table i≤(n:Int)-1)) () () (fun i hi hb=>by
    unfold Gt
    rw [if_pos (by omega),Ag (by omega),Ag (by unfold InI;omega),Ui]
    simp only [Int.toNat_natCast,Option.bind_some]
    rw [decide_eq_true (Classical.not_not.1 hb),if_pos rfl,Ag (by unfold InI;omega)];rfl) (fun i hi hb=>by
    unfold Gt
    rw [if_pos (by omega),Ag (by omega),Ag (by unfold InI;omega),Ui]
    simp only [Int.toNat_natCast,Option.bind_some]
    rw [decide_eq_false hb,if_neg (by simp)]) (by
    unfold Gt
    rw [if_neg (by omega)]) 0 (by omega)
   refine (I1 this false true).trans (congrArg some (Tj ?_))
   rw [Rp]
   constructor
   ·intro h
    refine ⟨h0.1,h0.2,hL,fun x hx=> ?_⟩
    obtain ⟨i,hi,rfl⟩:=Gv.1 hx
    have:=h i hi;omega
   ·intro h i hi
    have:=h.2.2.2 _ (As hi);omega
  ·rw [if_pos (fun hc=>hL (Int.ofNat_inj.1 hc)),decide_eq_false (fun h=>hL h.2.2.1)];rfl
 ·rw [decide_eq_false h0,if_neg (by simp),decide_eq_false (fun h=>h0 ⟨h.1,h.2.1⟩)];rfl
theorem L4 {a:SAlgebra} (h:Ku a):Cp a=some (decide (Dp a)):=by
 unfold Cp
 by_cases h1:a.Size<1
 ·rw [if_pos h1,decide_eq_false (fun hg=>by have:=hg.1;omega)];rfl
 rw [if_neg h1]
 by_cases h8:a.Size>8
 ·rw [if_pos h8,decide_eq_false (fun hg=>by have:=hg.2.1;omega)];rfl
 rw [if_neg h8]
 by_cases h4:(a.Ops.length:Int)>4
 ·rw [if_pos h4,decide_eq_false (fun hg=>by have:=hg.2.2.1;omega)];rfl
 rw [if_neg h4]
 simp only [Option.bind_some]
 obtain ⟨n,hn⟩:=Int.eq_ofNat_of_zero_le (show 0≤a.Size by omega)
 have this:=Eo (body:=C7 a) (fun i=>(i:Int)) a.Ops.length (fun i=>¬Apn n (nth a.Ops i)) () () (fun i hi hb=>by
  have hl:=h.2 _ (As hi)
  unfold C7
  rw [if_pos (by omega),Ag (by omega),Int.toNat_natCast,hn,Ayj (by omega) (by rw [Av];omega)]
  simp only [Option.bind_some]
  rw [decide_eq_true (Classical.not_not.1 hb),if_pos rfl,Ag (by unfold InI;omega)];rfl) (fun i hi hb=>by
  have hl:=h.2 _ (As hi)
  unfold C7
  rw [if_pos (by omega),Ag (by omega),Int.toNat_natCast,hn,Ayj (by omega) (by rw [Av];omega)]
  simp only [Option.bind_some]
  rw [decide_eq_false hb,if_neg (by simp)]) (by
  unfold C7
  rw [if_neg (by omega)]) 0 (by omega)
 refine (I1 this false true).trans (congrArg some (Tj ?_))
 rw [Rp]
 have hnn:a.Size.toNat=n:=by omega
 constructor
 ·intro hh
  refine ⟨by omega,by omega,by omega,fun f hf=> ?_⟩
  obtain ⟨i,hi,rfl⟩:=Gv.1 hf
  rw [hnn];exact hh i hi
 ·intro hg i hi
  have:=hg.2.2.2 _ (As hi)
  rwa [hnn] at this
theorem Ajq {a:SAlgebra} (h:Ku a):Hj a=some (decide (Dp a)):=by
 unfold Hj
 rw [Ui]
 simp only [Option.bind_some]
 by_cases h1:1≤a.Size∧a.Size≤8
 ·rw [decide_eq_true h1,if_pos rfl]
  by_cases h4:(a.Ops.length:Int)>4
  ·rw [if_pos h4,decide_eq_false (fun hg=>by have:=hg.2.2.1;omega)];rfl
  rw [if_neg h4]
  simp only [Option.bind_some]
  obtain ⟨n,hn⟩:=Int.eq_ofNat_of_zero_le (show 0≤a.Size by omega)
  have this:=Eo (body:=Em a) (fun i=>(i:Int)) a.Ops.length (fun i=>¬Apn n (nth a.Ops i)) () () (fun i hi hb=>by
   have hl:=h.2 _ (As hi)
   unfold Em
   rw [if_pos (by omega),Ag (by omega),Int.toNat_natCast,hn,Azb (by omega) (by omega) (by rw [Av];omega)]
   simp only [Option.bind_some]
   rw [decide_eq_true (Classical.not_not.1 hb),if_pos rfl,Ag (by unfold InI;omega)];rfl) (fun i hi hb=>by
   have hl:=h.2 _ (As hi)
   unfold Em
   rw [if_pos (by omega),Ag (by omega),Int.toNat_natCast,hn,Azb (by omega) (by omega) (by rw [Av];omega)]
   simp only [Option.bind_some]
   rw [decide_eq_false hb,if_neg (by simp)]) (by
   unfold Em
   rw [if_neg (by omega)]) 0 (by omega)
  refine (I1 this false true).trans (congrArg some (Tj ?_))
  rw [Rp]
  have hnn:a.Size.toNat=n:=by omega
  constructor
  ·intro hh
   refine ⟨by omega,by omega,by omega,fun f hf=> ?_⟩
   obtain ⟨i,hi,rfl⟩:=Gv.1 hf
   rw [hnn];exact hh i hi
  ·intro hg i hi
   have:=hg.2.2.2 _ (As hi)
   rwa [hnn] at this
 ·rw [decide_eq_false h1,if_neg (by simp),decide_eq_false (fun hg=>h1 ⟨hg.1,hg.2.1⟩)];rfl
def Kr (a:SAlgebra):List Int:=a.Ops.map (·.Arity)
theorem Aur {a:SAlgebra} {i:Nat} (hi:i<a.Ops.length):(a.Ops.take (i+1)).map (·.Arity)=(a.Ops.take i).map (·.Arity)++[(nth a.Ops i).Arity]:=by
 rw [Dx hi,List.map_append];rfl
theorem Aq3 {a:SAlgebra} (h:Ku a):I6 a=some (Kr a):=by
 unfold I6
 have h0:=h.1
 have key:=B9 (body:=Ey a) (fun i=>((i:Int),(a.Ops.take i).map (·.Arity))) a.Ops.length (Kr a) (fun i hi=>by
  unfold Ey
  dsimp only
  rw [if_pos (by omega),Ag (by omega),Int.toNat_natCast,Ag (by rw [Av];simp only [List.length_map,List.length_take,List.length_cons,List.length_nil];omega),Ag (by unfold InI;omega),Aur hi]
  rfl) (by
  unfold Ey
  dsimp only
  rw [if_neg (by omega),List.take_length]
  rfl)
 have key':Am (Ey a) (0,Ar Int)=_:=key
 rw [key'];rfl
theorem Av7 {a:SAlgebra} (h:Ku a):(Kr a).length≤LIM:=by
 have:=h.1
 unfold Kr;rw [List.length_map,Av];omega
theorem Auv {xs ys:List Int} (h:xs.length≤LIM):Iy xs ys=some (decide (xs=ys)):=by
 unfold Iy
 rw [Av] at h
 by_cases hne:xs.length=ys.length
 ·rw [if_neg (by omega)]
  have this:=Eo (body:=Dm xs ys) (fun i=>(i:Int)) xs.length (fun i=>¬nth xs i=nth ys i) () () (fun i hi hb=>by
   unfold Dm
   rw [if_pos (by omega),Ag (by omega),Ag (by omega)]
   simp only [Int.toNat_natCast]
   rw [if_neg (fun hc=>hc (Classical.not_not.1 hb).symm),Ag (by unfold InI;omega)];rfl) (fun i hi hb=>by
   unfold Dm
   rw [if_pos (by omega),Ag (by omega),Ag (by omega)]
   simp only [Int.toNat_natCast]
   rw [if_pos (fun hc=>hb hc.symm)]) (by unfold Dm;rw [if_neg (by omega)]) 0 (by omega)
  refine (I1 this false true).trans (congrArg some (Tj ?_))
  rw [Rp]
  exact ⟨fun hh=>Pf hne hh,fun hh i _=>by rw [hh]⟩
 ·rw [if_pos (by omega),decide_eq_false (fun hh=>hne (by rw [hh]))]
end Go.Proofs.Ytmmcfdfdacpjgaa.Ax
namespace Go.Proofs.Ytmmcfdfdacpjgaa.Ax
open Go Classical
def Ia (n:Nat):Nat→Nat→List Int
 | 0,_=>[]
 | r+1,k=>Ia n r (k/n)++[((k%n:Nat):Int)]
theorem M1 (n:Nat) : ∀r k,(Ia n r k).length=r:=by
 intro r
 induction r with
 | zero=>intro k;rfl
 | succ r ih=>intro k;simp [Ia,ih]
theorem Ad6 {n:Nat} (hn:0<n) : ∀r k,Bh (Ia n r k) n:=by
 intro r
 induction r with
 | zero=>intro k x hx;cases hx
 | succ r ih=>
   intro k x hx
   simp only [Ia] at hx
   rcases List.mem_append.1 hx with hx | hx
   ·exact ih _ x hx
   ·rw [List.mem_singleton.1 hx]
    have:=Nat.mod_lt k hn
    omega
theorem A2s {n:Nat} (hn:0<n) (hn8:n≤8) : ∀(r k:Nat) (xs:List Int),r≤xs.length→xs.length≤1000→k≤1048576→Am (Ep n) ((r:Int)-1,xs,(k:Int))=some (Ia n r k++xs.drop r):=by
 intro r
 induction r with
 | zero=>
   intro k xs _ _ _
   refine In ?_
   unfold Ep
   dsimp only
   rw [if_neg (by omega)]
   simp [Ia]
 | succ r ih=>
   intro k xs hr hl hk
   have c1:(k:Int).tdiv (n:Int)=((k/n:Nat):Int):=rfl
   have c2:(k:Int).tmod (n:Int)=((k%n:Nat):Int):=rfl
   have hd:k/n≤k:=Nat.div_le_self k n
   have step:Ep n (((r+1:Nat):Int)-1,xs,(k:Int))=some (.inl ((r:Int)-1,xs.set r ((k%n:Nat):Int),((k/n:Nat):Int))):=by
    unfold Ep
    dsimp only
    rw [show (((r+1:Nat):Int)-1)=(r:Int) by omega,c1,c2]
    generalize k/n=kd at hd
    rw [if_pos (by omega),Ag (by omega),Ag (by omega),Ag (by unfold InI;omega),Ag (by unfold InI;omega),Int.toNat_natCast]
   rw [R0 step,ih _ _ (by rw [List.length_set];omega) (by rw [List.length_set];exact hl) (by omega)]
   congr 1
   simp only [Ia]
   rw [List.append_assoc]
   congr 1
   have e:(xs.set r ((k%n:Nat):Int)).drop r=((k%n:Nat):Int)::xs.drop (r+1):=by
    refine List.ext_getElem (by simp;omega) fun i h1 h2=> ?_
    rw [List.getElem_drop,List.getElem_set]
    cases i with
    | zero=>simp
    | succ i=>
      rw [if_neg (by omega),List.getElem_cons_succ,List.getElem_drop]
      congr 1;omega
   rw [e];rfl
theorem Arb {n r k:Nat} (hn:0<n) (hn8:n≤8) (hr:r≤3) (hk:k≤1048576):I4 n r k=some (Ia n r k):=by
 unfold I4
 rw [Ag (by rw [Av];omega),Ag (by unfold InI;omega),Int.toNat_natCast,A2s hn hn8 r k _ (by simp) (by simp;omega) hk]
 simp
theorem A0h {n r k:Nat} (hn:0<n) (hn8:n≤8) (hr:r≤3) (hk:k≤1048576):K8 k r n=some (Ia n r k):=by
 have:K8 (k:Int) (r:Int) (n:Int)=I4 (n:Int) (r:Int) (k:Int):=rfl
 rw [this];exact Arb hn hn8 hr hk
def Hr (m:Nat) (xs:List Int):Int:=xs.foldl (fun s x=>s*(m:Int)+x) 0
theorem Kk (m:Nat) (xs:List Int) (y:Int):Hr m (xs++[y])=Hr m xs*(m:Int)+y:=by
 unfold Hr;rw [List.foldl_append];rfl
theorem Wu {m:Nat} : ∀(r:Nat) (xs:List Int),xs.length=r→Bh xs m → ∃c:Nat,Hr m xs=(c:Int)∧c<m^r:=by
 intro r
 induction r with
 | zero=>
   intro xs hl _
   have:xs=[]:=List.length_eq_zero_iff.1 hl
   subst this
   exact ⟨0,rfl,by simp⟩
 | succ r ih=>
   intro xs hl hx
   obtain ⟨ys,y,rfl⟩ : ∃ys y,xs=ys++[y]:=by
    refine ⟨xs.take r,nth xs r,?_⟩
    rw [←Dx (by omega),List.take_of_length_le (by omega)]
   have hy:=hx y (by simp)
   obtain ⟨c,h1,h2⟩:=ih ys (by simpa using hl) fun z hz=>hx z (by simp [hz])
   obtain ⟨d,rfl⟩:=Int.eq_ofNat_of_zero_le hy.1
   refine ⟨c*m+d,by rw [Kk,h1];push_cast;rfl,?_⟩
   have h3:=Nat.mul_le_mul_right m (show c+1≤m^r from h2)
   rw [Nat.succ_mul] at h3
   rw [Nat.pow_succ]
   omega
theorem Wr {m:Nat} (hm:m≤8) {xs:List Int} (hl:xs.length≤3) (hx:Bh xs m) : ∃c:Nat,Hr m xs=(c:Int)∧c<m^xs.length∧c<512:=by
 obtain ⟨c,h1,h2⟩:=Wu xs.length xs rfl hx
 have:=Wn hm hl
 exact ⟨c,h1,h2,by omega⟩
theorem Ax1 {m:Nat} {xs:List Int} {i:Nat} (hi:i<xs.length):Hr m (xs.take (i+1))=Hr m (xs.take i)*(m:Int)+nth xs i:=by
 rw [Dx hi,Kk]
theorem Aw1 {m:Nat} (hm:m≤8) {xs:List Int} (hl:xs.length≤3) (hx:Bh xs m) {i:Nat} (hi:i<xs.length) :
  InI (Hr m (xs.take i)*(m:Int))∧InI (Hr m (xs.take i)*(m:Int)+nth xs i):=by
 obtain ⟨c,h1,_,h3⟩:=Wr hm (xs:=xs.take i) (by rw [List.length_take];omega) fun z hz=>hx z (List.mem_of_mem_take hz)
 have hv:=hx _ (As hi)
 have h4:c*m≤512*8:=Nat.mul_le_mul (by omega) hm
 rw [h1,←Int.natCast_mul]
 generalize c*m=d at h4
 unfold InI
 omega
theorem Axd {m:Nat} (hm:m≤8) {xs:List Int} (hl:xs.length≤3) (hx:Bh xs m):Kb xs m=some (Hr m xs):=by
 unfold Kb
 have key:=B9 (body:=D4 xs m) (fun i=>((i:Int),Hr m (xs.take i))) xs.length (Hr m xs) (fun i hi=>by
  unfold D4
  dsimp only
  obtain ⟨h1,h2⟩:=Aw1 hm hl hx hi
  rw [if_pos (by omega),Ag (by omega),Ag h1,Int.toNat_natCast,Ag h2,Ag (by unfold InI;omega),Ax1 hi]
  rfl) (by
  unfold D4
  dsimp only
  rw [if_neg (by omega),List.take_length])
 have key':Am (D4 xs m) (0,0)=_:=key
 rw [key'];rfl
def Al6 (n m:Nat) (f:List Int):Nat→Nat→Int
 | 0,_=>0
 | r+1,k=>Al6 n m f r (k/n)*(m:Int)+nth f (k%n)
theorem Aq6 (n m:Nat) (f:List Int) : ∀r k,Hr m ((Ia n r k).map fun x=>nth f x.toNat)=Al6 n m f r k:=by
 intro r
 induction r with
 | zero=>intro k;rfl
 | succ r ih=>
   intro k
   simp only [Ia,Al6,List.map_append,List.map_cons,List.map_nil,Int.toNat_natCast]
   rw [Kk,ih]
theorem Axj (A C S M L:Int):A+C*S+S*M*L=A+S*(L*M+C):=by
 rw [Int.mul_add,Int.mul_comm C S,Int.add_assoc,Int.add_comm (S*C),Int.mul_assoc,Int.mul_comm M L]
theorem A0n {n m:Nat} (hn:0<n) (hm:m≤8) {a b:SAlgebra} (ha:a.Size=n) (hb:b.Size=m) {f:List Int} (hf:f.length=n) (hfx:Bh f m) {ar:Nat} (har:ar≤3) : ∀(r j s acc k:Nat),j+r=ar→s*8^r≤512→acc≤4096*j→k≤1048576 →
  Am (Cg ar a b f) ((j:Int),(s:Int),(acc:Int),(k:Int))=some ((acc:Int)+(s:Int)*Al6 n m f r k):=by
 intro r
 induction r with
 | zero=>
   intro j s acc k hj _ _ _
   refine In ?_
   unfold Cg
   dsimp only
   rw [if_neg (by omega)]
   simp [Al6]
 | succ r ih=>
   intro j s acc k hj hs hacc hk
   have hkn:=Nat.mod_lt k hn
   have hv:=hfx _ (As (show k%n<f.length by omega))
   obtain ⟨c,hc⟩:=Int.eq_ofNat_of_zero_le hv.1
   have hd:k/n≤k:=Nat.div_le_self k n
   have hp:0<8^r:=Nat.pow_pos (by omega)
   rw [Nat.pow_succ] at hs
   have hs8:s*8≤512:=by
    have:s*8*1≤s*8*8^r:=Nat.mul_le_mul_left _ hp
    rw [Nat.mul_assoc,Nat.mul_assoc,Nat.mul_comm 8 (8^r)] at this
    omega
   have hsm:s*m≤s*8:=Nat.mul_le_mul_left _ hm
   have hcs:c*s≤8*64:=Nat.mul_le_mul (by omega) (by omega)
   have c1:(k:Int).tdiv (n:Int)=((k/n:Nat):Int):=rfl
   have c2:(k:Int).tmod (n:Int)=((k%n:Nat):Int):=rfl
   have step:Cg ar a b f ((j:Int),(s:Int),(acc:Int),(k:Int))=some (.inl (((j+1:Nat):Int),((s*m:Nat):Int),((acc+c*s:Nat):Int),((k/n:Nat):Int))):=by
    unfold Cg
    dsimp only
    rw [ha,hb,c1,c2,Int.toNat_natCast,hc]
    have e1:(c:Int)*(s:Int)=((c*s:Nat):Int):=by push_cast;rfl
    have e2:(s:Int)*(m:Int)=((s*m:Nat):Int):=by push_cast;rfl
    rw [e1,e2]
    generalize k/n=kd at hd
    generalize k%n=km at hkn
    generalize c*s=cs at hcs
    generalize s*m=sm at hsm
    rw [if_pos (by omega)]
    repeat rw [Ag (by first | omega | (unfold InI;omega))]
    rfl
   have hb2:s*m*8^r≤512:=by
    have h1:s*m*8^r≤s*8*8^r:=Nat.mul_le_mul_right _ hsm
    rw [Nat.mul_assoc s 8,Nat.mul_comm 8 (8^r)] at h1
    omega
   rw [R0 step,ih (j+1) (s*m) (acc+c*s) (k/n) (by omega) hb2 (by omega) (by omega)]
   simp only [Al6,hc]
   congr 1
   push_cast
   exact Axj _ _ _ _ _
theorem Aod {n m:Nat} (hn:0<n) (hm:m≤8) {a b:SAlgebra} (ha:a.Size=n) (hb:b.Size=m) {f:List Int} (hf:f.length=n) (hfx:Bh f m) {ar:Nat} (har:ar≤3) {k:Nat} (hk:k≤1048576) :
  G6 k ar a b f=some (Al6 n m f ar k):=by
 unfold G6
 have h8:1*8^ar≤512:=by rw [Nat.one_mul];exact Wn (by omega) har
 have key:=A0n hn hm ha hb hf hfx har ar 0 1 0 k (by omega) h8 (by omega) hk
 have key':Am (Cg ar a b f) (0,1,0,(k:Int))=some (Al6 n m f ar k):=by simpa using key
 rw [key'];rfl
theorem Awj {n m:Nat} (hn:0<n) {f:List Int} (hf:f.length=n) (hfx:Bh f m) (r k:Nat):Bh ((Ia n r k).map fun x=>nth f x.toNat) m:=by
 intro y hy
 obtain ⟨x,hx,rfl⟩:=List.mem_map.1 hy
 have:=Ad6 hn r k x hx
 exact hfx _ (As (by omega))
structure Homs (a b:SAlgebra) (f:List Int) (n m:Nat):Prop where
 ga:Dp a
 gb:Dp b
 ty:Kr a=Kr b
 sa:a.Size=n
 sb:b.Size=m
 len:f.length=n
 fin:Bh f m
def Fx (a b:SAlgebra) (f:List Int) (n m i k:Nat):Prop:=nth f (nth (nth a.Ops i).Table k).toNat≠nth (nth b.Ops i).Table (Al6 n m f (nth a.Ops i).Arity.toNat k).toNat
def faulty (a b:SAlgebra) (f:List Int) (n m:Nat):Prop := ∃i,i<a.Ops.length ∧ ∃k,k<(nth a.Ops i).Table.length∧Fx a b f n m i k
section
variable {a b:SAlgebra}
variable {f:List Int} {n m:Nat}
theorem Homs.ops (h:Homs a b f n m):a.Ops.length=b.Ops.length:=by
 have:=congrArg List.length h.ty
 simpa [Kr] using this
theorem Homs.op (h:Homs a b f n m) {i:Nat} (hi:i<a.Ops.length) : ∃r:Nat,r≤3∧(nth a.Ops i).Arity=r∧(nth b.Ops i).Arity=r∧(nth a.Ops i).Table.length=n^r∧(nth b.Ops i).Table.length=m^r∧Bh (nth a.Ops i).Table n∧n^r≤512:=by
 have hn:a.Size.toNat=n:=by have:=h.sa;omega
 have hm:b.Size.toNat=m:=by have:=h.sb;omega
 have hn8:n≤8:=by have:=h.sa;have:=h.ga.2.1;omega
 obtain ⟨h1,h2,h3,h4⟩:=h.ga.2.2.2 _ (As hi)
 have hib:i<b.Ops.length:=by rw [←h.ops];exact hi
 obtain ⟨_,_,k3,_⟩:=h.gb.2.2.2 _ (As hib)
 have e:(nth a.Ops i).Arity=(nth b.Ops i).Arity:=by
  have e1:nth (Kr a) i=(nth a.Ops i).Arity:=Dr _ hi
  have e2:nth (Kr b) i=(nth b.Ops i).Arity:=Dr _ hib
  rw [←e1,←e2,h.ty]
 rw [hn] at h3 h4
 rw [hm,←e] at k3
 exact ⟨(nth a.Ops i).Arity.toNat,by omega,by omega,by omega,h3,k3,h4,Wn hn8 (by omega)⟩
theorem Homs.pos (h:Homs a b f n m):0<n∧n≤8∧0<m∧m≤8:=by
 have:=h.sa;have:=h.sb;have:=h.ga.1;have:=h.ga.2.1;have:=h.gb.1;have:=h.gb.2.1
 omega
theorem Homs.low (h:Homs a b f n m) {r k:Nat} (hr:r≤3) : ∃c:Nat,Al6 n m f r k=(c:Int)∧c<m^r:=by
 obtain ⟨hn,_,_,hm⟩:=h.pos
 obtain ⟨c,h1,h2,_⟩:=Wr hm (xs:=(Ia n r k).map fun x=>nth f x.toNat) (by rw [List.length_map,M1];exact hr) (Awj hn h.len h.fin r k)
 rw [Aq6] at h1
 rw [List.length_map,M1] at h2
 exact ⟨c,h1,h2⟩
end
def uniq (f:List Int):Prop := ∀i,i<f.length→nth f i∉f.take i
theorem A1a {a b:SAlgebra} (h:Ku a) (h':Ku b):Iw a b=some (decide (Dp a∧Dp b∧Kr a=Kr b)):=by
 unfold Iw
 rw [L4 h,L4 h']
 simp only [Option.bind_some]
 by_cases ga:Dp a
 ·by_cases gb:Dp b
  ·rw [decide_eq_true ga,decide_eq_true gb]
   simp only [if_true]
   unfold Rb Ld
   rw [L4 h,L4 h',decide_eq_true ga,decide_eq_true gb]
   simp only [Option.bind_some,if_true]
   rw [Aq3 h,Aq3 h']
   simp only [Option.bind_some]
   rw [Auv (Av7 h)]
   simp only [Option.bind_some,if_true]
   congr 1
   rw [decide_eq_decide]
   exact ⟨fun ht=>⟨ga,gb,ht⟩,fun hh=>hh.2.2⟩
  ·rw [decide_eq_true ga,decide_eq_false gb,decide_eq_false (show ¬(Dp a∧Dp b∧Kr a=Kr b) from fun hh=>gb hh.2.1)];simp
 ·rw [decide_eq_false ga,decide_eq_false (show ¬(Dp a∧Dp b∧Kr a=Kr b) from fun hh=>ga hh.1)];simp
end Go.Proofs.Ytmmcfdfdacpjgaa.Ax
namespace Go.Proofs.Ytmmcfdfdacpjgaa.Ax
open Go Classical
end Go.Proofs.Ytmmcfdfdacpjgaa.Ax
namespace Go.Proofs.Ytmmcfdfdacpjgaa.Ax
open Go Classical
def leP (q p:List Int):Prop:=q.length=p.length ∧ ∀i,i<p.length→nth q i≤nth p i
theorem leP.refl (p:List Int):leP p p:=⟨rfl,fun _ _=>Int.le_refl _⟩
theorem leP.trans {a b c:List Int} (h:leP a b) (h':leP b c):leP a c:=⟨h.1.trans h'.1,fun i hi=>Int.le_trans (h.2 i (by rw [h'.1];exact hi)) (h'.2 i hi)⟩
theorem leP.anti {a b:List Int} (h:leP a b) (h':leP b a):a=b:=Pf h.1 fun i hi=>Int.le_antisymm (h.2 i (by rw [←h.1];exact hi)) (h'.2 i hi)
def okP (n:Nat) (q:List Int):Prop:=q.length=n∧Bh q n
def Rel (n:Nat) (s t:Bool×Bool×List Int) (D:Prop):Prop:=
 okP n t.2.2∧leP t.2.2 s.2.2∧((t=s∧D)∨(t.2.2≠s.2.2∧t.1=true∧t.2.1=true∧¬D))
theorem Rel.congr {n:Nat} {s t:Bool×Bool×List Int} {D E:Prop} (h:Rel n s t D) (e:D↔E):Rel n s t E:=by
 rw [←propext e];exact h
section
variable {a:SAlgebra} {n:Nat}
theorem opX (ga:Dp a) (hn:a.Size=n) {i:Nat} (hi:i<a.Ops.length) : ∃r:Nat,r≤3∧(nth a.Ops i).Arity=r∧(nth a.Ops i).Table.length=n^r∧Bh (nth a.Ops i).Table n∧n^r≤512∧0<n∧n≤8:=by
 have hn':a.Size.toNat=n:=by omega
 have h1:=ga.1
 have h2:=ga.2.1
 obtain ⟨b1,b2,b3,b4⟩:=ga.2.2.2 _ (As hi)
 rw [hn'] at b3 b4
 exact ⟨(nth a.Ops i).Arity.toNat,by omega,by omega,b3,b4,Wn (by omega) (by omega),by omega,by omega⟩
end
end Go.Proofs.Ytmmcfdfdacpjgaa.Ax
namespace Go.Proofs.Ytmmcfdfdacpjgaa.Ax
open Go Classical
structure Perm (f:List Int) (n:Nat):Prop where
 len:f.length=n
 fin:Bh f n
 un:uniq f
theorem Perm.count {f:List Int} {n:Nat} (h:Perm f n) : ∀i,i≤n→(A8 n fun z=>decide ((z:Int)∈f.take i)).length=i:=by
 intro i
 induction i with
 | zero=>
   intro _
   rw [List.length_eq_zero_iff]
   exact An2.2 fun z _=>by simp
 | succ i ih=>
   intro hi
   have hil:i<f.length:=by rw [h.len];exact hi
   have hv:=h.fin _ (As hil)
   have hu:=h.un i hil
   have hc:nth f i=(((nth f i).toNat:Nat):Int):=by omega
   have:=Av9 (q:=fun z=>decide ((z:Int)∈f.take i)) (q':=fun z=>decide ((z:Int)∈f.take (i+1))) (x:=(nth f i).toNat) (decide_eq_false (by rw [←hc];exact hu)) (fun z=>by
    rw [Dx hil,Bool.eq_iff_iff]
    simp only [decide_eq_true_eq,List.mem_append,List.mem_singleton,Bool.or_eq_true]
    constructor
    ·rintro (h1 | h1)
     ·exact .inl h1
     ·exact .inr (by omega)
    ·rintro (h1 | h1)
     ·exact .inl h1
     ·exact .inr (by omega)) n
   rw [this,ih (by omega),if_pos (by omega)]
end Go.Proofs.Ytmmcfdfdacpjgaa.Ax
namespace Go.Proofs.Ytmmcfdfdacpjgaa.Ax
open Go Classical
theorem Aro {xs:List Int} (h:xs.length≤LIM):Ki xs xs=some true:=by
 have hL:=Av
 unfold Ki
 rw [if_neg (by simp)]
 have:=B9 (body:=Fn xs xs) (fun i=>(i:Int)) xs.length (.inr ()) (fun i hi=>by
  unfold Fn
  rw [if_pos (by omega)]
  repeat rw [Ag (by first | omega | (unfold InI;omega))]
  rw [if_neg (by simp)]
  repeat rw [Ag (by first | omega | (unfold InI;omega))]
  rfl) (by
  unfold Fn
  rw [if_neg (by omega)])
 have h0:Am (Fn xs xs) 0=some (.inr ()):=this
 rw [h0];rfl
def Ap2 (a b:SAlgebra) (f:List Int) (n m i k:Nat):Prop:=i<a.Ops.length∧k<(nth a.Ops i).Table.length∧Fx a b f n m i k ∧
 (∀j,j<i → ∀l,l<(nth a.Ops j).Table.length→¬Fx a b f n m j l) ∧ ∀l,l<k→¬Fx a b f n m i l
section
variable {a b:SAlgebra} {f:List Int} {n m:Nat}
theorem Ap2.faulty {i k:Nat} (h:Ap2 a b f n m i k):faulty a b f n m:=⟨i,h.1,k,h.2.1,h.2.2.1⟩
theorem Aui {τ1 τ2 τ:Type} (body1:Int→Int→Option (Int ⊕ (τ1 ⊕ Unit))) (body2:Int→Option (Int ⊕ (τ2 ⊕ Unit))) (res1:Nat→Nat→τ1) (res2:Nat→τ1→τ2)
  (h1 : ∀i,i<a.Ops.length → ∀k,k<(nth a.Ops i).Table.length→body1 (i:Int) (k:Int)=if Fx a b f n m i k then some (.inr (.inl (res1 i k))) else some (.inl ((k+1:Nat):Int)))
  (h1e : ∀i,i<a.Ops.length→body1 (i:Int) ((nth a.Ops i).Table.length:Int)=some (.inr (.inr ())))
  (h2 : ∀i,i<a.Ops.length→body2 (i:Int)=(Am (body1 (i:Int)) 0).bind fun t=>match t with | .inl q=>some (.inr (.inl (res2 i q))) | .inr _=>some (.inl ((i+1:Nat):Int)))
  (h2e:body2 (a.Ops.length:Int)=some (.inr (.inr ()))) (out:τ2 ⊕ Unit→Option τ) :
  (∃i k,Ap2 a b f n m i k∧(Am body2 0).bind out=out (.inl (res2 i (res1 i k))))∨(¬faulty a b f n m∧(Am body2 0).bind out=out (.inr ())):=by
 have inner : ∀i,i<a.Ops.length→(∃k,k<(nth a.Ops i).Table.length∧Fx a b f n m i k∧(∀l,l<k→¬Fx a b f n m i l)∧Am (body1 (i:Int)) 0=some (.inl (res1 i k))) ∨
   ((∀k,k<(nth a.Ops i).Table.length→¬Fx a b f n m i k)∧Am (body1 (i:Int)) 0=some (.inr ())):=by
  intro i hi
  exact V5 (body:=body1 (i:Int)) (fun k=>(k:Int)) (nth a.Ops i).Table.length (Fx a b f n m i) (fun k=> .inl (res1 i k)) (.inr ()) (fun k hk hh=>by rw [h1 i hi k hk,if_neg hh]) (fun k hk hh=>by rw [h1 i hi k hk,if_pos hh]) (h1e i hi)
 have inner2 : ∀i,∃q:Nat,i<a.Ops.length→(∃k,k<(nth a.Ops i).Table.length∧Fx a b f n m i k)→q<(nth a.Ops i).Table.length∧Fx a b f n m i q∧(∀l,l<q→¬Fx a b f n m i l)∧Am (body1 (i:Int)) 0=some (.inl (res1 i q)):=by
  intro i
  by_cases hi:i<a.Ops.length
  ·rcases inner i hi with ⟨k,h3⟩ | ⟨hno,_⟩
   ·exact ⟨k,fun _ _=>h3⟩
   ·exact ⟨0,fun _ ⟨k,hk,hx⟩=>absurd hx (hno k hk)⟩
  ·exact ⟨0,fun hh=>absurd hh hi⟩
 obtain ⟨q,hq⟩ : ∃q:Nat→Nat,∀i,i<a.Ops.length→(∃k,k<(nth a.Ops i).Table.length∧Fx a b f n m i k)→q i<(nth a.Ops i).Table.length∧Fx a b f n m i (q i)∧(∀l,l<q i→¬Fx a b f n m i l)∧Am (body1 (i:Int)) 0=some (.inl (res1 i (q i))):=
  ⟨fun i=>Classical.choose (inner2 i),fun i=>Classical.choose_spec (inner2 i)⟩
 rcases V5 (body:=body2) (fun i=>(i:Int)) a.Ops.length (fun i => ∃k,k<(nth a.Ops i).Table.length∧Fx a b f n m i k) (fun i=> .inl (res2 i (res1 i (q i)))) (.inr ()) (fun i hi hh=>by
   rw [h2 i hi]
   rcases inner i hi with ⟨k,hk,hx,_⟩ | ⟨_,e⟩
   ·exact absurd ⟨k,hk,hx⟩ hh
   ·rw [e];rfl) (fun i hi hh=>by
   rw [h2 i hi,(hq i hi hh).2.2.2];rfl) h2e with ⟨i,hi,hh,hmin,e⟩ | ⟨hno,e⟩
 ·left
  obtain ⟨q1,q2,q3,_⟩:=hq i hi hh
  refine ⟨i,q i,⟨hi,q1,q2,fun j hj l hl hx=>hmin j hj ⟨l,hl,hx⟩,q3⟩,?_⟩
  rw [show ((0:Int))=(((0:Nat)):Int) from rfl,e];rfl
 ·right
  refine ⟨fun ⟨i,hi,hh⟩=>hno i hi hh,?_⟩
  rw [show ((0:Int))=(((0:Nat)):Int) from rfl,e];rfl
theorem Auu (h:Homs a b f n m):(∃i k,Ap2 a b f n m i k∧Ht a b f=some ((i:Int),(k:Int)))∨(¬faulty a b f n m∧Ht a b f=some (-1,0)):=by
 obtain ⟨hn,hn8,_,hm⟩:=h.pos
 have hop4:=h.ga.2.2.1
 unfold Ht
 refine Aui (E9 a b f) (E6 a b f) (fun _ k=>(k:Int)) (fun i q=>(q,(i:Int))) ?_ ?_ ?_ ?_ _
 ·intro i hi k hk
  obtain ⟨r,hr,e1,e2,l1,l2,t1,l3⟩:=h.op hi
  have hops:=h.ops
  have hv:=t1 _ (As hk)
  have hlen:=h.len
  obtain ⟨c,hc1,hc2⟩:=h.low (k:=k) hr
  unfold E9
  rw [Int.toNat_natCast,if_pos (by omega),Ag (by omega),Int.toNat_natCast,Ag (by omega),Ag (by omega),e1,Aod hn hm h.sa h.sb h.len h.fin hr (by omega)]
  simp only [Option.bind_some]
  rw [Ag (by rw [hc1,l2];omega)]
  have er:(nth a.Ops i).Arity.toNat=r:=by omega
  by_cases hF:Fx a b f n m i k
  ·have hF':=hF
   unfold Fx at hF'
   rw [er] at hF'
   rw [if_pos hF',if_pos hF]
  ·have hF':=hF
   unfold Fx at hF'
   rw [er] at hF'
   rw [if_neg hF',if_neg hF,Ag (by unfold InI;omega)];rfl
 ·intro i hi
  unfold E9
  rw [Int.toNat_natCast,if_neg (by omega)]
 ·intro i hi
  unfold E6
  rw [if_pos (by omega),Ag (by omega)]
  congr 1
  funext t
  cases t with
  | inl q=>rfl
  | inr u=>dsimp only;rw [Ag (by unfold InI;omega)];rfl
 ·unfold E6
  rw [if_neg (by omega)]
end
def Atc (a b:SAlgebra):Prop:=Dp a∧Dp b∧Kr a=Kr b
def Ay0 (a b:SAlgebra) (f:List Int):Prop:=(f.length:Int)=a.Size∧Bh f b.Size
def Ayx (a b:SAlgebra) (f:List Int):Prop:=Atc a b∧Ay0 a b f∧¬faulty a b f a.Size.toNat b.Size.toNat
section
variable {a b:SAlgebra} {f:List Int}
theorem A0t (h:Atc a b) (h2:Ay0 a b f):Homs a b f a.Size.toNat b.Size.toNat:=by
 have h3:=h.1.1
 have h4:=h.2.1.1
 exact ⟨h.1,h.2.1,h.2.2,by omega,by omega,by have:=h2.1;omega,by rw [show ((b.Size.toNat:Nat):Int)=b.Size by omega];exact h2.2⟩
theorem A0u (hl:f.length≤LIM):Mo a b f=some (decide (Ay0 a b f)):=by
 unfold Mo
 by_cases h1:(f.length:Int)=a.Size
 ·rw [if_pos h1,Zq _ _ hl]
  simp only [Option.bind_some]
  congr 1
  rw [decide_eq_decide]
  exact ⟨fun h=>⟨h1,h⟩,fun h=>h.2⟩
 ·rw [if_neg h1,decide_eq_false (show ¬Ay0 a b f from fun h=>h1 h.1)]
theorem A02 (h:Atc a b) (hl:f.length≤LIM):M6 a b f=some (decide (Ayx a b f)):=by
 unfold M6
 rw [A0u hl]
 simp only [Option.bind_some]
 by_cases hm:Ay0 a b f
 ·rw [decide_eq_true hm,if_pos rfl]
  rcases Auu (A0t h hm) with ⟨i,k,hf,e⟩ | ⟨hf,e⟩
  ·rw [e,decide_eq_false (show ¬Ayx a b f from fun hh=>hh.2.2 hf.faulty)]
   simp only [Option.bind_some]
   rw [decide_eq_false (by omega)]
  ·rw [e,decide_eq_true (show Ayx a b f from ⟨h,hm,hf⟩)]
   rfl
 ·rw [decide_eq_false hm,if_neg (by simp),decide_eq_false (show ¬Ayx a b f from fun hh=>hm hh.2.1)]
end
end Go.Proofs.Ytmmcfdfdacpjgaa.Ax
namespace Go.Proofs.Ytmmcfdfdacpjgaa.Ax
open Go Classical
theorem Aex {β:Type} (k:ByteArray) (v:β) (k':ByteArray) : ∀(l:List (ByteArray×β)),Dz (L9 l k v) k'=if k'=k then some v else Dz l k'
 | []=>by simp [L9,Dz]
 | (a,b)::r=>by
   simp only [L9]
   by_cases h1:k=a
   ·subst h1
    rw [if_pos rfl]
    simp only [Dz]
    by_cases h2:k'=k
    ·rw [if_pos h2,if_pos h2]
    ·rw [if_neg h2,if_neg h2,if_neg h2]
   ·rw [if_neg h1]
    simp only [Dz]
    rw [Aex k v k' r]
    by_cases h2:k'=a
    ·rw [if_pos h2,if_pos h2,if_neg (fun e=>h1 (by rw [←e,h2]))]
    ·rw [if_neg h2,if_neg h2]
theorem Ate (ns:List Int) : ∀b:ByteArray,(ns.foldl (fun r n=>r.push (UInt8.ofNat n.toNat)) b).data.toList=b.data.toList++ns.map fun n=>UInt8.ofNat n.toNat:=by
 induction ns with
 | nil=>intro b;simp
 | cons n r ih=>
   intro b
   simp only [List.foldl_cons,List.map_cons]
   rw [ih]
   simp [ByteArray.push]
theorem A0k {a b:Int} (ha:0≤a∧a≤255) (hb:0≤b∧b≤255) (h:UInt8.ofNat a.toNat=UInt8.ofNat b.toNat):a=b:=by
 have:=congrArg UInt8.toNat h
 simp [UInt8.toNat_ofNat'] at this
 omega
theorem Axg {ns ms:List Int} (hn : ∀x∈ns,0≤x∧x≤255) (hm : ∀x∈ms,0≤x∧x≤255) (h:Xp ns=Xp ms):ns=ms:=by
 have e:=congrArg (fun b:ByteArray=>b.data.toList) h
 simp only [Xp,Ate] at e
 have e2:(ns.map fun n:Int=>UInt8.ofNat n.toNat)=ms.map fun n:Int=>UInt8.ofNat n.toNat:=by simpa using e
 clear e h
 induction ns generalizing ms with
 | nil=>
   cases ms with
   | nil=>rfl
   | cons _ _=>cases e2
 | cons a r ih=>
   cases ms with
   | nil=>cases e2
   | cons b s=>
     simp only [List.map_cons,List.cons.injEq] at e2
     rw [A0k (hn a (by simp)) (hm b (by simp)) e2.1,ih (fun x hx=>hn x (by simp [hx])) (fun x hx=>hm x (by simp [hx])) e2.2]
def byt (x:Int):List Int:=[IntKind.u8.wrap (x.fdiv (2^min (Int.toNat 8) IntKind.i64.bits)),IntKind.u8.wrap x]
theorem Ayg (n:Int):IntKind.u8.wrap n=n%256:=by simp [IntKind.wrap,IntKind.bits,IntKind.signed]
theorem Az1 {x:Int} (h0:0≤x) (h1:x<65536):byt x=[x/256,x%256]:=by
 unfold byt
 have e:(2:Int)^min (Int.toNat 8) IntKind.i64.bits=256:=by decide
 rw [e,Ayg,Ayg,Int.fdiv_eq_ediv_of_nonneg _ (by omega)]
 congr 1
 omega
theorem Azx (x:Int) : ∀y∈byt x,0≤y∧y≤255:=by
 intro y hy
 unfold byt at hy
 simp only [List.mem_cons,List.not_mem_nil,or_false] at hy
 rcases hy with rfl | rfl<;>(rw [Ayg];omega)
def Al7 (xs:List Int):ByteArray:=Xp (xs.flatMap byt)
theorem Api : ∀ {xs ys:List Int},(∀x∈xs,0≤x∧x<65536)→(∀x∈ys,0≤x∧x<65536)→xs.flatMap byt=ys.flatMap byt→xs=ys:=by
 intro xs
 induction xs with
 | nil=>
   intro ys _ _ h
   cases ys with
   | nil=>rfl
   | cons y r=>simp [byt] at h
 | cons x r ih=>
   intro ys hx hy h
   cases ys with
   | nil=>simp [byt] at h
   | cons y s=>
     have h1:=hx x (by simp)
     have h2:=hy y (by simp)
     simp only [List.flatMap_cons,Az1 h1.1 h1.2,Az1 h2.1 h2.2,List.cons_append,List.nil_append,List.cons.injEq] at h
     rw [ih (fun z hz=>hx z (by simp [hz])) (fun z hz=>hy z (by simp [hz])) h.2.2,show x=y by omega]
theorem Asw {xs ys:List Int} (hx : ∀x∈xs,0≤x∧x<65536) (hy : ∀x∈ys,0≤x∧x<65536) (h:Al7 xs=Al7 ys):xs=ys:=by
 refine Api hx hy (Axg ?_ ?_ h)
 ·intro y hy
  obtain ⟨x,_,hy⟩:=List.mem_flatMap.1 hy
  exact Azx x y hy
 ·intro y hy
  obtain ⟨x,_,hy⟩:=List.mem_flatMap.1 hy
  exact Azx x y hy
theorem Ax8 (xs:List Int):(xs.flatMap byt).length=2*xs.length:=by
 induction xs with
 | nil=>rfl
 | cons x r ih=>simp only [List.flatMap_cons,List.length_append,ih,List.length_cons];simp [byt];omega
theorem Apy {xs:List Int} (hl:xs.length≤1048576):Hi xs=some (Al7 xs):=by
 have hL:=Av
 unfold Hi
 rw [Ag (by unfold InI;omega),Ag (by omega)]
 have key:=B9 (body:=Fp xs) (fun i=>((i:Int),(xs.take i).flatMap byt)) xs.length (xs.flatMap byt) (fun i hi=>by
  have h1:=Ax8 (xs.take i)
  unfold Fp
  dsimp only
  rw [if_pos (by omega),Ag (by omega),Int.toNat_natCast,Ag (by rw [h1,List.length_take];simp only [List.length_cons,List.length_nil];omega),Ag (by unfold InI;omega),Dx hi,List.flatMap_append]
  simp [byt]) (by
  unfold Fp
  dsimp only
  rw [if_neg (by omega),List.take_length])
 have key':Am (Fp xs) (0,Ar Int)=_:=key
 rw [key'];rfl
theorem Anj {n:Nat} (hn:0<n) : ∀r (xs:List Int),xs.length=r→Bh xs n→Ia n r (Hr n xs).toNat=xs:=by
 intro r
 induction r with
 | zero=>intro xs hl _;rw [List.length_eq_zero_iff.1 hl];rfl
 | succ r ih=>
   intro xs hl hx
   obtain ⟨ys,y,rfl⟩ : ∃ys y,xs=ys++[y]:=⟨xs.take r,nth xs r,by rw [←Dx (by omega),List.take_of_length_le (by omega)]⟩
   have hy:=hx y (by simp)
   have hys:Bh ys n:=fun z hz=>hx z (by simp [hz])
   have hyl:ys.length=r:=by simpa using hl
   obtain ⟨c,h1,_⟩:=Wu r ys hyl hys
   obtain ⟨d,rfl⟩:=Int.eq_ofNat_of_zero_le hy.1
   have hd:d<n:=by omega
   have e:(Hr n (ys++[(d:Int)])).toNat=c*n+d:=by
    rw [Kk,h1,←Int.natCast_mul,←Int.natCast_add,Int.toNat_natCast]
   rw [e]
   simp only [Ia]
   rw [show (c*n+d)/n=c by rw [Nat.mul_comm,Nat.mul_add_div hn,Nat.div_eq_of_lt hd];omega,show (c*n+d)%n=d by rw [Nat.mul_comm,Nat.mul_add_mod,Nat.mod_eq_of_lt hd]]
   have:=ih ys hyl hys
   rw [h1,Int.toNat_natCast] at this
   rw [this]
end Go.Proofs.Ytmmcfdfdacpjgaa.Ax
namespace Go.Proofs.Ytmmcfdfdacpjgaa.Ax
open Go Classical
def hT (n r:Nat) (y:Nat→Int):Int:=Hr n ((List.range r).map y)
theorem A1j (n r:Nat) (y:Nat→Int):hT n (r+1) y=hT n r y*(n:Int)+y r:=by
 unfold hT;rw [List.range_succ,List.map_append];exact Kk _ _ _
theorem A4x {n r:Nat} {y:Nat→Int} (h : ∀i,i<r→0≤y i∧y i<n):Bh ((List.range r).map y) n:=by
 intro v hv
 obtain ⟨i,hi,rfl⟩:=List.mem_map.1 hv
 exact h i (List.mem_range.1 hi)
theorem Aej {n r:Nat} {y:Nat→Int} (hn:n≤8) (hr:r≤3) (h : ∀i,i<r→0≤y i∧y i<n) : ∃c:Nat,hT n r y=(c:Int)∧c<n^r∧c<512:=by
 obtain ⟨c,h1,h2,h3⟩:=Wr hn (xs:=(List.range r).map y) (by simpa using hr) (A4x h)
 exact ⟨c,h1,by simpa using h2,h3⟩
theorem Avn {body:(Int×Int)→Option ((Int×Int) ⊕ Int)} (n r:Nat) (y:Nat→Int) (hb : ∀i,i<r→body ((i:Int),hT n i y)=some (.inl (((i+1:Nat):Int),hT n i y*(n:Int)+y i))) (he : ∀q,body ((r:Int),q)=some (.inr q)) :
  Am body (0,0)=some (hT n r y):=by
 have key:=B9 (body:=body) (fun i=>((i:Int),hT n i y)) r (hT n r y) (fun i hi=>by rw [hb i hi,A1j]) (he _)
 exact key
structure OpR (n r:Nat) (f:SOp):Prop where
 ar:f.Arity=r
 le:r≤2
 len:f.Table.length=n^r
 fin:Bh f.Table n
theorem OpR.at {n r:Nat} {f:SOp} (h:OpR n r f) (hn:n≤8) {y:Nat→Int} (hy : ∀i,i<r→0≤y i∧y i<n):(∃c:Nat,hT n r y=(c:Int)∧c<f.Table.length∧c<512)∧0≤nth f.Table (hT n r y).toNat∧nth f.Table (hT n r y).toNat<n:=by
 obtain ⟨c,h1,h2,h3⟩:=Aej hn (by have:=h.le;omega) hy
 rw [←h.len] at h2
 exact ⟨⟨c,h1,h2,h3⟩,by rw [h1,Int.toNat_natCast];exact h.fin _ (As h2)⟩
def Arr (n:Int) (f g:SOp):Prop:=1≤n∧n≤4∧Apn n.toNat f∧Apn n.toNat g∧f.Arity≤2∧g.Arity≤2
theorem Arr.symm {n:Int} {f g:SOp} (h:Arr n f g):Arr n g f:=⟨h.1,h.2.1,h.2.2.2.1,h.2.2.1,h.2.2.2.2.2,h.2.2.2.2.1⟩
theorem Arr.ops {n:Int} {f g:SOp} (h:Arr n f g):OpR n.toNat f.Arity.toNat f∧OpR n.toNat g.Arity.toNat g:=by
 obtain ⟨h1,h2,h3,h4,h5,h6⟩:=h
 obtain ⟨a1,a2,a3,a4⟩:=h3
 obtain ⟨b1,b2,b3,b4⟩:=h4
 exact ⟨⟨by omega,by omega,a3,a4⟩,⟨by omega,by omega,b3,b4⟩⟩
end Go.Proofs.Ytmmcfdfdacpjgaa.Ax
namespace Go.Proofs.Ytmmcfdfdacpjgaa.Ax
open Go Classical
structure OpQ (n r:Nat) (f:SOp):Prop where
 ar:f.Arity=r
 le:r≤3
 len:f.Table.length=n^r
 fin:Bh f.Table n
theorem OpQ.at {n r:Nat} {f:SOp} (h:OpQ n r f) (hn:n≤8) {y:Nat→Int} (hy : ∀i,i<r→0≤y i∧y i<n):(∃c:Nat,hT n r y=(c:Int)∧c<f.Table.length∧c<512)∧0≤nth f.Table (hT n r y).toNat∧nth f.Table (hT n r y).toNat<n:=by
 obtain ⟨c,h1,h2,h3⟩:=Aej hn (by have:=h.le;omega) hy
 rw [←h.len] at h2
 exact ⟨⟨c,h1,h2,h3⟩,by rw [h1,Int.toNat_natCast];exact h.fin _ (As h2)⟩
section
variable {a:SAlgebra} {n:Nat} {p:List Int}
theorem A24 (ga:Dp a) (hn:a.Size=n) {o:Nat} (ho:o<a.Ops.length):OpQ n (nth a.Ops o).Arity.toNat (nth a.Ops o)∧Apn n (nth a.Ops o):=by
 obtain ⟨r,r1,r2,r3,r4,_⟩:=opX ga hn ho
 have e:(nth a.Ops o).Arity.toNat=r:=by omega
 have hn':a.Size.toNat=n:=by omega
 refine ⟨⟨by omega,by omega,by rw [e];exact r3,r4⟩,?_⟩
 have:=ga.2.2.2 _ (As ho)
 rwa [hn'] at this
end
end Go.Proofs.Ytmmcfdfdacpjgaa.Ax
namespace Go.Proofs.Ytmmcfdfdacpjgaa.Ax
open Go Classical
theorem Atg {xs:List Int} (h:xs.length≤LIM):Kg xs=some xs:=by
 unfold Kg
 rw [Ag (by show 0+xs.length≤_;omega)];rfl
theorem Anb {T:List (List Int)} {t:List Int} {w:Nat} (hT:T.length≤1000000) (hw:w≤1000) (hr : ∀r∈T,r.length=w) (ht:t.length=w) : ∃(k:Nat) (b:Bool),C1 T t=some ((k:Int),b)∧k≤T.length:=by
 have hL:=Av
 unfold C1
 obtain ⟨k,e,k0,k1⟩:=Cc (body:=En T t) (fun s=>0≤s.2∧s.2≤s.1∧s.1≤T.length) (fun s=>(s.1-s.2).toNat) (fun k=>0≤k∧k≤T.length) (by
  rintro ⟨tz,fr⟩ ⟨g0,g1,g2⟩
  dsimp only at g0 g1 g2
  unfold En
  dsimp only
  by_cases hlt:fr<tz
  ·have e2:(fr+tz).tdiv 2=(fr+tz)/2:=Int.tdiv_eq_ediv_of_nonneg (by omega)
   rw [if_pos hlt,e2,Ag (by unfold InI;omega),Ag ⟨by decide,by unfold InI;omega⟩,Ag (by omega)]
   obtain ⟨m,hm⟩:=Int.eq_ofNat_of_zero_le (show 0≤(fr+tz)/2 by omega)
   rw [hm,Int.toNat_natCast]
   have hml:m<T.length:=by omega
   have hrm:=hr _ (As hml)
   have ec:=Aad (a:=nth T m) (b:=t) (by omega) (by omega)
   rw [ec]
   simp only [Option.bind_some]
   by_cases c:Pk (nth T m) t
   ·rw [decide_eq_true c,if_pos rfl,Ag (by unfold InI;omega)]
    exact .inl ⟨_,rfl,⟨by dsimp only;omega,by dsimp only;omega,g2⟩,by dsimp only;omega⟩
   ·rw [decide_eq_false c,if_neg Bool.false_ne_true]
    exact .inl ⟨_,rfl,⟨g0,by dsimp only;omega,by dsimp only;omega⟩,by dsimp only;omega⟩
  ·rw [if_neg hlt]
   exact .inr ⟨_,rfl,g0,by omega⟩) (s:=((T.length:Int),(0:Int))) ⟨Int.le_refl _,by dsimp only;omega,Int.le_refl _⟩
 rw [e]
 simp only [Option.bind_some]
 obtain ⟨m,rfl⟩:=Int.eq_ofNat_of_zero_le k0
 by_cases hm:m<T.length
 ·have hrm:=hr _ (As hm)
  rw [if_pos (by omega),Ag (by omega),Int.toNat_natCast,Asp (by omega)]
  exact ⟨m,_,rfl,by omega⟩
 ·rw [if_neg (by omega)]
  exact ⟨m,_,rfl,by omega⟩
theorem Ay2 {T:List (List Int)} {t:List Int} {w:Nat} (hT:T.length≤1000000) (hw:w≤1000) (hr : ∀r∈T,r.length=w) (ht:t.length=w) : ∃M,Ih T t=some M∧M.length≤T.length+1 ∧ ∀r∈M,r.length=w:=by
 have hLim:=Av
 obtain ⟨k,b,e,hk⟩:=Anb hT hw hr ht
 unfold Ih
 rw [e]
 simp only [Option.bind_some]
 by_cases hb:b=true
 ·rw [if_pos hb]
  exact ⟨T,rfl,Nat.le_succ _,hr⟩
 ·rw [if_neg hb,Ag (by omega),Ag (by simp [Ar];omega),Ag (by simp [Ar];omega),Ag (by omega),Ag (by simp [Ar];omega)]
  refine ⟨_,rfl,by simp [Ar];omega,fun r hr'=> ?_⟩
  rcases List.mem_append.1 hr' with h | h
  ·rcases List.mem_append.1 h with h | h
   ·rcases List.mem_append.1 h with h | h
    ·simp [Ar] at h
    ·exact hr r (List.mem_of_mem_drop (List.mem_of_mem_take h))
   ·rw [List.mem_singleton.1 h];exact ht
  ·exact hr r (List.mem_of_mem_drop (List.mem_of_mem_take h))
def apV (T:List (List Int)) (n w:Nat) (f:SOp) (r:Nat):List Int:=(List.range w).map fun j=>nth f.Table (hT n r fun i=>nth (nth T i) j).toNat
theorem R2 {a:SAlgebra} {n r w i:Nat} (hsz:a.Size=n) (h8:n≤8) (hi:i<a.Ops.length) (_hil:a.Ops.length≤1048576) (hf:OpQ n r (nth a.Ops i)) {T:List (List Int)} (hTr:T.length=r) (hrow : ∀t∈T,t.length=w∧Bh t n) (hw:w≤1000) :
  D5 a i T w=some (apV T n w (nth a.Ops i) r)∧Bh (apV T n w (nth a.Ops i) r) n:=by
 have hL:=Av
 have hr3:=hf.le
 have hy : ∀j,j<w → ∀q,q<r→0≤nth (nth T q) j∧nth (nth T q) j<n:=fun j hj q hq=>by
  obtain ⟨a1,a2⟩:=hrow _ (As (show q<T.length by omega))
  exact a2 _ (As (by omega))
 constructor
 ·unfold D5
  have key:=B9 (body:=D9 a i T w) (fun j=>((j:Int),(List.range j).map fun j=>nth (nth a.Ops i).Table (hT n r fun q=>nth (nth T q) j).toNat)) w (apV T n w (nth a.Ops i) r) (fun j hj=>by
   obtain ⟨⟨d,d1,d2,_⟩,_⟩:=hf.at h8 (hy j hj)
   have l1 : ∀b,Am (Fc a i T w (j:Int) b) (0,0)=some (hT n r fun q=>nth (nth T q) j):=fun b=>by
    refine Avn n r _ (fun q hq=> ?_) fun q=>by unfold Fc;dsimp only;rw [if_neg (by omega)]
    obtain ⟨b1,b2⟩:=hrow _ (As (show q<T.length by omega))
    have b3:=hy j hj q hq
    obtain ⟨c,c1,_,c3⟩:=Aej (n:=n) (r:=q) (y:=fun q=>nth (nth T q) j) h8 (by omega) (fun q' hq'=>hy j hj q' (by omega))
    have q5:(c:Int)*(n:Int)=((c*n:Nat):Int):=by push_cast;rfl
    have q6:c*n≤512*8:=Nat.mul_le_mul (by omega) h8
    unfold Fc
    dsimp only
    rw [if_pos (by omega),hsz,c1,q5,Ag (by unfold InI;omega),Ag (by omega),Int.toNat_natCast,Ag (by omega),Int.toNat_natCast,Ag (by unfold InI;omega),Ag (by unfold InI;omega)]
    rfl
   unfold D9
   dsimp only
   rw [if_pos (by omega),l1]
   simp only [Option.bind_some]
   rw [Int.toNat_natCast,Ag (by omega),d1,Ag (by omega),Ag (by simp;omega),Ag (by unfold InI;omega),List.range_succ,List.map_append]
   simp only [List.map_cons,List.map_nil]
   rw [d1]
   rfl) (by
   unfold D9
   dsimp only
   rw [if_neg (by omega)]
   rfl)
  have key':Am (D9 a i T w) (0,Ar Int)=_:=key
  rw [key'];rfl
 ·intro v hv
  obtain ⟨j,hj,rfl⟩:=List.mem_map.1 hv
  exact (hf.at h8 (hy j (List.mem_range.1 hj))).2
theorem Sz (T:List (List Int)) (n w:Nat) (f:SOp) (r:Nat):(apV T n w f r).length=w:=by simp [apV]
theorem Akn (N:Nat) (ys:List Int) : ∀m,Hr N (ys++List.replicate m 0)=Hr N ys*((N^m:Nat):Int)
 | 0=>by simp
 | m+1=>by
   rw [List.replicate_succ',←List.append_assoc,Kk,Akn N ys m,Int.add_zero,Int.mul_assoc,Nat.pow_succ]
   congr 1
theorem Afc (N:Nat) (ys:List Int) : ∀m,Hr N (ys++List.replicate m ((N:Int)-1))+1=(Hr N ys+1)*((N^m:Nat):Int)
 | 0=>by simp
 | m+1=>by
   have:=Afc N ys m
   rw [List.replicate_succ',←List.append_assoc,Kk]
   have e:Hr N (ys++List.replicate m ((N:Int)-1))*(N:Int)+((N:Int)-1)+1=(Hr N (ys++List.replicate m ((N:Int)-1))+1)*(N:Int):=by
    rw [Int.add_mul,Int.one_mul];omega
   rw [e,this,Int.mul_assoc,Nat.pow_succ]
   congr 1
theorem Anw {xs:List Int} {r N:Nat} (hl:xs.length=r) (hr:r≤100) (hN:1≤N) (hN2:N≤1000000) (hx:Bh xs N) : ∃ys b,Dj xs N=some (ys,b)∧ys.length=r∧Bh ys N∧(b=true→Hr N ys=Hr N xs+1)∧(b=false→Hr N xs+1=((N^r:Nat):Int)):=by
 have hL:=Av
 unfold Dj
 rw [Atg (by omega)]
 simp only [Option.bind_some]
 rw [Ag (by unfold InI;omega)]
 obtain ⟨t,e,ht⟩:=Cc (body:=Ev N) (fun s => ∃j:Nat,s=((j:Int)-1,xs.take j++List.replicate (r-j) 0)∧j≤r ∧ ∀q,j≤q→q<r→nth xs q=(N:Int)-1) (fun s=>(s.1+1).toNat) (fun t=>match t with
  | .inl ys=>ys.length=r∧Bh ys N∧Hr N ys=Hr N xs+1
  | .inr ys=>ys.length=r∧Bh ys N∧Hr N xs+1=((N^r:Nat):Int)) (by
  rintro s ⟨j,rfl,hj,hq⟩
  unfold Ev
  dsimp only
  have hlen:(xs.take j++List.replicate (r-j) 0).length=r:=by simp;omega
  by_cases h0:0<j
  ·obtain ⟨i,rfl⟩ : ∃i,j=i+1:=⟨j-1,by omega⟩
   have hv:nth (xs.take (i+1)++List.replicate (r-(i+1)) 0) i=nth xs i:=by
    rw [Gz (by simp;omega),Dx (by omega)]
    have:=Zb (xs:=xs.take i) (y:=nth xs i)
    rwa [List.length_take,Nat.min_eq_left (by omega)] at this
   have hxi:=hx _ (As (show i<xs.length by omega))
   have hset : ∀v:Int,(xs.take (i+1)++List.replicate (r-(i+1)) 0).set i v=xs.take i++[v]++List.replicate (r-(i+1)) 0:=fun v=>by
    rw [Dx (by omega),List.set_append_left _ _ (by simp;omega),List.set_append_right _ _ (by simp;omega)]
    simp [List.length_take,Nat.min_eq_left (show i≤xs.length by omega)]
   have htake:Bh (xs.take i) N:=fun z hz=>hx z (List.mem_of_mem_take hz)
   rw [show (((i+1:Nat):Int)-1)=(i:Int) by omega,if_pos (by omega),Ag (by omega),Ag (by unfold InI;omega),Int.toNat_natCast,hv]
   by_cases hlt:nth xs i<(N:Int)-1
   ·rw [if_pos hlt,Ag (by omega),Ag (by unfold InI;omega),Ag (by omega),hset]
    refine .inr ⟨_,rfl,by simp;omega,?_,?_⟩
    ·intro z hz
     simp only [List.mem_append,List.mem_singleton,List.mem_replicate] at hz
     rcases hz with (hz | hz) | hz
     ·exact htake z hz
     ·omega
     ·omega
    ·have e1:xs=xs.take i++[nth xs i]++List.replicate (r-(i+1)) ((N:Int)-1):=by
      rw [←Dx (by omega)]
      refine Pf (by simp;omega) fun q hq'=> ?_
      by_cases hqi:q<i+1
      ·rw [Gz (by simp;omega),D6 hq',D6 (by simp;omega),List.getElem_take]
      ·rw [hq q (by omega) (by omega)]
       rw [D6 (by simp;omega),List.getElem_append_right (by simp;omega)]
       simp
     have e2:=Afc N (xs.take i++[nth xs i]) (r-(i+1))
     rw [←e1] at e2
     rw [e2,Akn,Kk,Kk,Int.add_assoc]
   ·rw [if_neg hlt,Ag (by omega),Ag (by unfold InI;omega),hset]
    refine .inl ⟨_,rfl,⟨i,?_,by omega,fun q h1 h2=> ?_⟩,by dsimp only;omega⟩
    ·rw [show r-i=(r-(i+1))+1 by omega,List.replicate_succ]
     simp
    ·by_cases e:q=i
     ·subst e;omega
     ·exact hq q (by omega) h2
  ·have:j=0:=by omega
   subst this
   rw [if_neg (by omega)]
   refine .inr ⟨_,rfl,hlen,fun z hz=> ?_,?_⟩
   ·simp only [List.take_zero,List.nil_append,List.mem_replicate] at hz
    omega
   ·have e1:xs=List.replicate r ((N:Int)-1):=Pf (by simp;omega) fun q hq'=>by
     rw [hq q (by omega) (by omega),Aaw _ (by omega)]
    have e2:=Afc N [] r
    rw [List.nil_append,←e1] at e2
    rw [e2,show Hr N []=0 from rfl,Int.zero_add,Int.one_mul]) (s:=((xs.length:Int)-1,xs)) ⟨r,by rw [hl,List.take_of_length_le (by omega)];simp,Nat.le_refl _,fun q h1 h2=>by omega⟩
 rw [e]
 cases t with
 | inl ys=>exact ⟨ys,true,rfl,ht.1,ht.2.1,fun _=>ht.2.2,fun h=>absurd h (by simp)⟩
 | inr ys=>exact ⟨ys,false,rfl,ht.1,ht.2.1,fun h=>absurd h (by simp),fun _=>ht.2.2⟩
theorem Axr {xs:List Int} {r N:Nat} (hl:xs.length=r) (hr:r≤100) (hN:1≤N) (hN2:N≤1000000) (hx:Bh xs N) : ∃ys b,Dj xs N=some (ys,b)∧ys.length=r∧Bh ys N∧(b=true→Hr N ys=Hr N xs+1):=by
 obtain ⟨ys,b,h1,h2,h3,h4,_⟩:=Anw hl hr hN hN2 hx
 exact ⟨ys,b,h1,h2,h3,h4⟩
theorem Aqu {line:List (List Int)} {xs:List Int} (hl:xs.length≤1048576) (hx:Bh xs line.length):Hs line xs=some (xs.map fun i=>nth line i.toNat,line):=by
 have hL:=Av
 unfold Hs
 have key:=B9 (body:=Da line xs) (fun i=>((i:Int),(xs.take i).map fun i=>nth line i.toNat)) xs.length (xs.map fun i=>nth line i.toNat) (fun i hi=>by
  have:=hx _ (As hi)
  unfold Da
  dsimp only
  rw [if_pos (by omega),Ag (by omega),Int.toNat_natCast,Ag (by omega),Ag (by simp;omega),Ag (by unfold InI;omega),Dx hi,List.map_append]
  rfl) (by
  unfold Da
  dsimp only
  rw [if_neg (by omega),List.take_of_length_le (by omega)])
 have key':Am (Da line xs) (0,Ar (List Int))=_:=key
 rw [key'];rfl
theorem Awf {a:SAlgebra} (hl:a.Ops.length≤1048576) : ∃m:Int,F7 a=some m∧40≤m∧m≤300:=by
 unfold F7
 obtain ⟨t,e,_⟩:=Cc (body:=C2 a) (fun s => ∃i:Nat,s.1=(i:Int)∧i≤a.Ops.length) (fun s=>a.Ops.length-s.1.toNat) (fun _=>True) (by
  rintro ⟨x,m⟩ ⟨i,rfl,hi⟩
  unfold C2
  dsimp only
  by_cases h:i<a.Ops.length
  ·rw [if_pos (by omega),Ag (by omega),Ajx]
   simp only [Option.bind_some]
   rw [Ag (by unfold InI;omega)]
   exact .inl ⟨_,rfl,⟨i+1,rfl,h⟩,by dsimp only;omega⟩
  ·rw [if_neg (by omega)]
   exact .inr ⟨_,rfl,trivial⟩) (s:=((0:Int),(0:Int))) ⟨0,rfl,Nat.zero_le _⟩
 rw [e]
 simp only [Option.bind_some]
 by_cases h3:t=3
 ·rw [if_pos h3];exact ⟨_,rfl,by decide,by decide⟩
 rw [if_neg h3]
 by_cases h2:t=2
 ·rw [if_pos h2];exact ⟨_,rfl,by decide,by decide⟩
 rw [if_neg h2];exact ⟨_,rfl,by decide,by decide⟩
structure ClQ (n w:Nat) (line out:List (List Int)):Prop where
 row : ∀t∈line,t.length=w∧Bh t n
 orow : ∀t∈out,t.length=w
 le:out.length≤line.length
 most:line.length≤1200
theorem ClQ.add {n w:Nat} {line out:List (List Int)} (h:ClQ n w line out) (hw:w≤1000) {t:List Int} (ht:t.length=w) (hti:Bh t n) (hlt:line.length<1200) :
  ∃k b,C1 out t=some (k,b) ∧ ∃M,Ih out t=some M∧ClQ n w (line++[t]) M:=by
 obtain ⟨k,b,e,_⟩:=Anb (T:=out) (t:=t) (w:=w) (by have:=h.le;have:=h.most;omega) hw h.orow ht
 obtain ⟨M,e2,h1,h2⟩:=Ay2 (T:=out) (t:=t) (w:=w) (by have:=h.le;have:=h.most;omega) hw h.orow ht
 refine ⟨_,b,e,M,e2,fun s hs=> ?_,h2,?_,?_⟩
 ·rcases List.mem_append.1 hs with hs | hs
  ·exact h.row s hs
  ·rw [List.mem_singleton.1 hs];exact ⟨ht,hti⟩
 ·have:=h.le
  rw [List.length_append];simp only [List.length_cons,List.length_nil];omega
 ·rw [List.length_append];simp only [List.length_cons,List.length_nil];omega
section
variable {a:SAlgebra} {n w:Nat} (hsz:a.Size=n) (h8:n≤8) (hol:a.Ops.length≤100) (hops : ∀i,i<a.Ops.length → ∃r,OpQ n r (nth a.Ops i)) (hw:w≤1000)
include hsz h8 hol hops hw
omit hops in
theorem A3a {m:Int} (hm:m≤300) {x i:Nat} (hi:i<a.Ops.length) {r:Nat} (hf:OpQ n r (nth a.Ops i)) {line out:List (List Int)} (hx:x<line.length) (h:ClQ n w line out) (b:Bool) :
  ∃L O,Am (Fa a w m x i) (b,List.replicate r 0,line,out)=some (L,O)∧ClQ n w L O∧x<L.length:=by
 have hLm:=Av
 have hr3:=hf.le
 have hx0:=h.most
 obtain ⟨t,e,ht⟩:=Cc (body:=Fa a w m x i) (fun s=>s.2.1.length=r∧Bh s.2.1 ((x+1:Nat):Int)∧ClQ n w s.2.2.1 s.2.2.2∧x<s.2.2.1.length) (fun s=>if s.1=true then 1+((((x+1)^r:Nat):Int)-Hr (x+1) s.2.1).toNat else 0) (fun t=>ClQ n w t.1 t.2∧x<t.1.length) (by
  rintro ⟨b,xs,L,O⟩ ⟨g1,g2,g3,g4⟩
  dsimp only at g1 g2 g3 g4
  unfold Fa
  dsimp only
  cases b with
  | false=>
    rw [if_neg (by simp)]
    exact .inr ⟨_,rfl,g3,g4⟩
  | true=>
    rw [if_pos rfl]
    by_cases hLl:(L.length:Int)≤m
    ·rw [if_pos hLl]
     simp only [Option.bind_some]
     have hg:=g3.most
     obtain ⟨ys,c,e1,y1,y2,y3⟩:=Axr g1 (by omega) (show 1≤x+1 by omega) (by omega) g2
     obtain ⟨d,d1,d2⟩:=Wu r xs g1 g2
     obtain ⟨d',d1',d2'⟩:=Wu r ys y1 y2
     have fin : ∀L' O',ClQ n w L' O'→x<L'.length→(∃s',(((Dj xs ((x:Int)+1)).bind fun r44=>some (.inl (r44.snd,r44.fst,L',O'))):Option ((Bool×(List Int)×(List (List Int))×(List (List Int))) ⊕ ((List (List Int))×(List (List Int)))))=some (.inl s')∧(s'.2.1.length=r∧Bh s'.2.1 ((x+1:Nat):Int)∧ClQ n w s'.2.2.1 s'.2.2.2∧x<s'.2.2.1.length)∧(if s'.1=true then 1+((((x+1)^r:Nat):Int)-Hr (x+1) s'.2.1).toNat else 0)<(if true=true then 1+((((x+1)^r:Nat):Int)-Hr (x+1) xs).toNat else 0)):=fun L' O' k1 k2=>by
      rw [show ((x:Int)+1)=((x+1:Nat):Int) by omega,e1]
      refine ⟨_,rfl,⟨y1,y2,k1,k2⟩,?_⟩
      dsimp only
      rw [if_pos rfl]
      cases c with
      | false=>rw [if_neg (by simp)];omega
      | true=>
        have:=y3 rfl
        rw [if_pos rfl]
        omega
     rw [A1o _ _ (by omega)]
     simp only [Option.bind_some]
     by_cases hh:(x:Int)∈xs
     ·rw [decide_eq_true hh,if_pos rfl,Aqu (by omega) (fun z hz=>by have:=g2 z hz;omega)]
      simp only [Option.bind_some]
      have hrow : ∀t∈xs.map (fun i=>nth L i.toNat),t.length=w∧Bh t n:=fun t ht=>by
       obtain ⟨z,hz,rfl⟩:=List.mem_map.1 ht
       have:=g2 z hz
       exact g3.row _ (As (by omega))
      obtain ⟨p1,p2⟩:=R2 hsz h8 hi (by omega) hf (T:=xs.map fun i=>nth L i.toNat) (by rw [List.length_map];exact g1) hrow hw
      rw [p1]
      simp only [Option.bind_some]
      obtain ⟨k,bb,f1,M,f2,f3⟩:=g3.add hw (Sz _ _ _ _ _) p2 (by omega)
      rw [f1]
      simp only [Option.bind_some]
      cases bb with
      | true=>
        rw [if_pos rfl]
        simp only [Option.bind_some]
        rw [Ag (by unfold InI;omega)]
        exact .inl (fin _ _ g3 g4)
      | false=>
        rw [if_neg (by simp),f2]
        simp only [Option.bind_some]
        rw [Ag (by simp only [List.length_cons,List.length_nil];omega)]
        simp only [Option.bind_some]
        rw [Ag (by unfold InI;omega)]
        exact .inl (fin _ _ f3 (by rw [List.length_append];omega))
     ·rw [decide_eq_false hh,if_neg (by simp)]
      simp only [Option.bind_some]
      rw [Ag (by unfold InI;omega)]
      exact .inl (fin _ _ g3 g4)
    ·rw [if_neg hLl]
     exact .inr ⟨_,rfl,g3,g4⟩) (s:=(b,List.replicate r 0,line,out)) ⟨by simp,fun z hz=>by rw [List.mem_replicate] at hz;omega,h,hx⟩
 exact ⟨t.1,t.2,e,ht.1,ht.2⟩
theorem A4f {m:Int} (hm:m≤300) {x:Nat} {line out:List (List Int)} (hx:x<line.length) (h:ClQ n w line out) :
  ∃L O,Am (Fe a w m x) (0,line,out)=some (L,O)∧ClQ n w L O∧x<L.length:=by
 have hLm:=Av
 obtain ⟨t,e,ht⟩:=Cc (body:=Fe a w m x) (fun s => ∃i:Nat,s.1=(i:Int)∧i≤a.Ops.length∧ClQ n w s.2.1 s.2.2∧x<s.2.1.length) (fun s=>a.Ops.length-s.1.toNat) (fun t=>ClQ n w t.1 t.2∧x<t.1.length) (by
  rintro ⟨y,L,O⟩ ⟨i,rfl,g1,g2,g3⟩
  dsimp only at g2 g3
  unfold Fe
  dsimp only
  by_cases hi:i<a.Ops.length
  ·obtain ⟨r,hf⟩:=hops i hi
   have hr3:=hf.le
   obtain ⟨L',O',e,q1,q2⟩:=A3a hsz h8 hol hw hm hi hf g3 g2 (decide ((r:Int)>0))
   rw [if_pos (by omega),Ag (by omega),Int.toNat_natCast,hf.ar,Ag (by omega),Ag (by omega),Int.toNat_natCast,e]
   simp only [Option.bind_some]
   rw [Ag (by unfold InI;omega)]
   exact .inl ⟨_,rfl,⟨i+1,rfl,hi,q1,q2⟩,by dsimp only;omega⟩
  ·rw [if_neg (by omega)]
   exact .inr ⟨_,rfl,g2,g3⟩) (s:=((0:Int),line,out)) ⟨0,rfl,Nat.zero_le _,h,hx⟩
 exact ⟨t.1,t.2,e,ht.1,ht.2⟩
theorem Atw {gens:List (List Int)} (hgl:gens.length≤1000) (hg : ∀t∈gens,t.length=w∧Bh t n) : ∃T b,Hw a w gens=some (T,b)∧T.length≤1200 ∧ ∀t∈T,t.length=w:=by
 have hLm:=Av
 obtain ⟨m,em,m1,m2⟩:=Awf (a:=a) (by omega)
 unfold Hw
 rw [em]
 simp only [Option.bind_some]
 have k1:=B9 (body:=D8 a w gens m) (fun i=>((i:Int),gens.take i)) gens.length gens (fun i hi=>by
  have hgi:=hg _ (As hi)
  unfold D8
  dsimp only
  rw [if_pos (by omega),Ag (by omega),Int.toNat_natCast,Atg (by omega)]
  simp only [Option.bind_some]
  rw [Ag (by simp;omega),Ag (by unfold InI;omega),Dx hi]
  rfl) (by
  unfold D8
  dsimp only
  rw [if_neg (by omega),List.take_of_length_le (by omega)])
 have k1':Am (D8 a w gens m) (0,Ar (List Int))=some gens:=k1
 rw [k1']
 simp only [Option.bind_some]
 obtain ⟨F,e2,f1,f2⟩:=Cc (body:=Ha a w m) (fun s => ∃i:Nat,s.1=(i:Int)∧i≤a.Ops.length∧s.2.length≤1000+i ∧ ∀t∈s.2,t.length=w∧Bh t n) (fun s=>a.Ops.length-s.1.toNat) (fun t=>t.length≤1100 ∧ ∀r∈t,r.length=w∧Bh r n) (by
  rintro ⟨y,F⟩ ⟨i,rfl,g1,g2,g3⟩
  dsimp only at g2 g3
  unfold Ha
  dsimp only
  by_cases hi:i<a.Ops.length
  ·obtain ⟨r,hf⟩:=hops i hi
   rw [if_pos (by omega),Ag (by omega),Int.toNat_natCast,hf.ar]
   by_cases h0:(r:Int)=0
   ·have h0':r=0:=by omega
    subst h0'
    obtain ⟨p1,p2⟩:=R2 hsz h8 hi (by omega) hf (T:=Ar (List Int)) rfl (fun t ht=>by simp [Ar] at ht) hw
    rw [if_pos h0,p1]
    simp only [Option.bind_some]
    rw [Ag (by simp only [List.length_cons,List.length_nil];omega),Ag (by unfold InI;omega)]
    refine .inl ⟨_,rfl,⟨i+1,rfl,hi,by rw [List.length_append];simp only [List.length_cons,List.length_nil];omega,fun t ht=> ?_⟩,by dsimp only;omega⟩
    rcases List.mem_append.1 ht with ht | ht
    ·exact g3 t ht
    ·rw [List.mem_singleton.1 ht];exact ⟨Sz _ _ _ _ _,p2⟩
   ·rw [if_neg h0,Ag (by unfold InI;omega)]
    exact .inl ⟨_,rfl,⟨i+1,rfl,hi,by dsimp only;omega,g3⟩,by dsimp only;omega⟩
  ·rw [if_neg (by omega)]
   exact .inr ⟨_,rfl,by omega,g3⟩) (s:=((0:Int),gens)) ⟨0,rfl,Nat.zero_le _,by dsimp only;omega,hg⟩
 rw [e2]
 simp only [Option.bind_some]
 obtain ⟨⟨L,O⟩,e3,l1⟩:=Cc (body:=G5 a w m F) (fun s => ∃i:Nat,s.1=(i:Int)∧i≤F.length∧ClQ n w s.2.1 s.2.2∧s.2.1.length≤i) (fun s=>F.length-s.1.toNat) (fun t=>ClQ n w t.1 t.2) (by
  rintro ⟨y,L,O⟩ ⟨i,rfl,g1,g2,g3⟩
  dsimp only at g2 g3
  unfold G5
  dsimp only
  by_cases hi:i<F.length
  ·obtain ⟨q1,q2⟩:=f2 _ (As hi)
   obtain ⟨k,bb,p1,M,p2,p3⟩:=g2.add hw q1 q2 (by omega)
   rw [if_pos (by omega),Ag (by omega),Int.toNat_natCast,p1]
   simp only [Option.bind_some]
   cases bb with
   | true=>
     rw [if_pos rfl,Ag (by unfold InI;omega)]
     exact .inl ⟨_,rfl,⟨i+1,rfl,hi,g2,by dsimp only;omega⟩,by dsimp only;omega⟩
   | false=>
     rw [if_neg (by simp),Ag (by omega),p2]
     simp only [Option.bind_some]
     rw [Ag (by omega),Ag (by simp only [List.length_cons,List.length_nil];omega),Ag (by unfold InI;omega)]
     exact .inl ⟨_,rfl,⟨i+1,rfl,hi,p3,by rw [List.length_append];simp only [List.length_cons,List.length_nil];omega⟩,by dsimp only;omega⟩
  ·rw [if_neg (by omega)]
   exact .inr ⟨_,rfl,g2⟩) (s:=((0:Int),Ar (List Int),Ar (List Int))) ⟨0,rfl,Nat.zero_le _,⟨fun t ht=>by simp [Ar] at ht,fun t ht=>by simp [Ar] at ht,Nat.le_refl _,by simp [Ar]⟩,Nat.le_refl _⟩
 dsimp only at l1
 rw [e3]
 simp only [Option.bind_some]
 obtain ⟨T,e4,t1,t2⟩:=Cc (body:=Hb a w m) (fun s => ∃x:Nat,s.1=(x:Int)∧x≤1200∧ClQ n w s.2.1 s.2.2) (fun s=>1200-s.1.toNat) (fun t=>t.length≤1200 ∧ ∀r∈t,r.length=w) (by
  rintro ⟨y,L,O⟩ ⟨x,rfl,g1,g2⟩
  dsimp only at g2
  have q1:=g2.le
  have q2:=g2.most
  unfold Hb
  dsimp only
  by_cases hx:x<L.length
  ·rw [if_pos (by omega)]
   by_cases hLm':(L.length:Int)≤m
   ·obtain ⟨L',O',e,p1,p2⟩:=A4f hsz h8 hol hops hw m2 hx g2
    rw [if_pos hLm']
    simp only [Option.bind_some]
    rw [e]
    simp only [Option.bind_some]
    rw [Ag (by unfold InI;omega)]
    exact .inl ⟨_,rfl,⟨x+1,rfl,by omega,p1⟩,by dsimp only;omega⟩
   ·rw [if_neg hLm']
    exact .inr ⟨_,rfl,by omega,g2.orow⟩
  ·rw [if_neg (by omega)]
   exact .inr ⟨_,rfl,by omega,g2.orow⟩) (s:=((0:Int),L,O)) ⟨0,rfl,Nat.zero_le _,l1⟩
 rw [e4]
 exact ⟨T,_,rfl,t1,t2⟩
end
end Go.Proofs.Ytmmcfdfdacpjgaa.Ax
namespace Go.Proofs.Ytmmcfdfdacpjgaa.Ax
open Go Classical
theorem Zr (a:List Int):¬Pk a a:=fun ⟨i,_,_,h⟩=>by omega
theorem Aa8 {a b c:List Int} (hab:a.length=b.length) (h1:Pk a b) (h2:Pk b c):Pk a c:=by
 obtain ⟨i,hi,e1,l1⟩:=h1
 obtain ⟨k,hk,e2,l2⟩:=h2
 rcases Nat.lt_trichotomy i k with h | h | h
 ·exact ⟨i,hi,fun j hj=>(e1 j hj).trans (e2 j (by omega)),by rw [←e2 i h];exact l1⟩
 ·subst h;exact ⟨i,hi,fun j hj=>(e1 j hj).trans (e2 j hj),by omega⟩
 ·exact ⟨k,by omega,fun j hj=>(e1 j (by omega)).trans (e2 j hj),by rw [e1 k h];exact l2⟩
structure SrtW (w:Nat) (T:List (List Int)):Prop where
 row : ∀t∈T,t.length=w
 up : ∀i,0<i→i<T.length→Pk (nth T (i-1)) (nth T i)
theorem SrtW.lt {w:Nat} {T:List (List Int)} (h:SrtW w T) : ∀j,j<T.length → ∀i,i<j→Pk (nth T i) (nth T j):=by
 intro j
 induction j with
 | zero=>intro _ i hi;omega
 | succ j ih=>
   intro hj i hi
   have h1:=h.up (j+1) (by omega) hj
   rw [Nat.add_sub_cancel] at h1
   by_cases e:i=j
   ·subst e;exact h1
   ·exact Aa8 (by rw [h.row _ (As (show i<T.length by omega)),h.row _ (As (show j<T.length by omega))]) (ih (by omega) i (by omega)) h1
theorem SrtW.uniq {w:Nat} {T:List (List Int)} (h:SrtW w T) {i j:Nat} (hi:i<T.length) (hj:j<T.length) (e:nth T i=nth T j):i=j:=by
 rcases Nat.lt_trichotomy i j with h1 | h1 | h1
 ·exact absurd (e▸h.lt j hj i h1) (Zr _)
 ·exact h1
 ·exact absurd (e▸h.lt i hi j h1) (Zr _)
theorem Ang {T:List (List Int)} {w:Nat} (hl:T.length≤1048576) (hw:w≤1048576) (hs:SrtW w T) {t:List Int} (ht:t.length=w) :
  ∃k:Nat,C1 T t=some ((k:Int),decide (t∈T))∧(t∈T→k<T.length∧nth T k=t):=by
 have hL:=Av
 have hrow : ∀i,i<T.length→(nth T i).length=w:=fun i hi=>hs.row _ (As hi)
 unfold C1
 obtain ⟨k0,e,k,rfl,hk,h1,h2⟩:=Cc (body:=En T t) (fun s => ∃a b:Nat,s=((b:Int),(a:Int))∧a≤b∧b≤T.length∧(∀j,j<a→Pk (nth T j) t) ∧ ∀j,b≤j→j<T.length→¬Pk (nth T j) t)
  (fun s=>(s.1-s.2).toNat) (fun k => ∃a:Nat,k=(a:Int)∧a≤T.length∧(∀j,j<a→Pk (nth T j) t) ∧ ∀j,a≤j→j<T.length→¬Pk (nth T j) t) (by
  rintro s ⟨a,b,rfl,hab,hb,h1,h2⟩
  unfold En
  dsimp only
  by_cases h:a<b
  ·obtain ⟨m,hm⟩ : ∃m:Nat,m=(a+b)/2:=⟨_,rfl⟩
   have e2:((a:Int)+(b:Int)).tdiv 2=(m:Int):=by
    rw [Int.tdiv_eq_ediv_of_nonneg (by omega)];omega
   rw [if_pos (by omega),Ag (by unfold InI;omega),e2,Ag ⟨by decide,by unfold InI;omega⟩,Ag (by omega),Int.toNat_natCast,Aad (by rw [hrow m (by omega),ht]) (by rw [hrow m (by omega)];omega)]
   simp only [Option.bind_some,decide_eq_true_eq]
   by_cases hc:Pk (nth T m) t
   ·rw [if_pos hc,Ag (by unfold InI;omega)]
    refine .inl ⟨_,rfl,⟨m+1,b,rfl,by omega,hb,fun j hj=> ?_,h2⟩,by dsimp only;omega⟩
    by_cases e:j=m
    ·subst e;exact hc
    ·exact Aa8 (by rw [hrow j (by omega),hrow m (by omega)]) (hs.lt m (by omega) j (by omega)) hc
   ·rw [if_neg hc]
    refine .inl ⟨_,rfl,⟨a,m,rfl,by omega,by omega,h1,fun j hj hj2 hcj=> ?_⟩,by dsimp only;omega⟩
    by_cases e:j=m
    ·subst e;exact hc hcj
    ·exact hc (Aa8 (by rw [hrow m (by omega),hrow j hj2]) (hs.lt j hj2 m (by omega)) hcj)
  ·rw [if_neg (by omega)]
   exact .inr ⟨_,rfl,a,rfl,by omega,h1,fun j hj hj2=>h2 j (by omega) hj2⟩) (s:=((T.length:Int),(0:Int))) ⟨0,T.length,rfl,Nat.zero_le _,Nat.le_refl _,fun j hj=>by omega,fun j hj hj2=>by omega⟩
 have at_ : ∀j,j<T.length→nth T j=t→j=k:=fun j hj ej=>by
  rcases Nat.lt_trichotomy j k with h3 | h3 | h3
  ·exact absurd (ej▸h1 j h3) (Zr _)
  ·exact h3
  ·exact absurd (ej▸hs.lt j hj k h3) (h2 k (Nat.le_refl _) (by omega))
 rw [e]
 simp only [Option.bind_some]
 refine ⟨k,?_,fun hm=> ?_⟩
 ·by_cases hlt:k<T.length
  ·rw [if_pos (by omega),Ag (by omega),Int.toNat_natCast,Asp (by rw [hrow k hlt];omega)]
   simp only [Option.bind_some]
   congr 2
   refine decide_eq_decide.2 ⟨fun h=>h▸As hlt,fun h=> ?_⟩
   obtain ⟨j,hj,ej⟩:=Gv.1 h
   rw [←at_ j hj ej];exact ej
  ·rw [if_neg (by omega)]
   congr 2
   symm
   rw [decide_eq_false_iff_not]
   intro h
   obtain ⟨j,hj,ej⟩:=Gv.1 h
   have:=at_ j hj ej
   omega
 ·obtain ⟨j,hj,ej⟩:=Gv.1 hm
  have:=at_ j hj ej
  subst this
  exact ⟨hj,ej⟩
section
variable {a:SAlgebra} {n r w i:Nat}
theorem R8 (hsz:a.Size=n) (h8:n≤8) {f:SOp} (hf:OpQ n r f) {T:List (List Int)} (hTr:T.length=r) (hrow : ∀t∈T,t.length=w∧Bh t n) (hw:w≤1000) :
  Cx a f w T=some (apV T n w f r):=by
 have hL:=Av
 have hr3:=hf.le
 have hy : ∀j,j<w → ∀q,q<r→0≤nth (nth T q) j∧nth (nth T q) j<n:=fun j hj q hq=>by
  obtain ⟨a1,a2⟩:=hrow _ (As (show q<T.length by omega))
  exact a2 _ (As (by omega))
 unfold Cx
 rw [Ag (by omega),Int.toNat_natCast]
 have key:=B9 (body:=Cq a f w T) (fun j=>((j:Int),((List.range j).map fun j=>nth f.Table (hT n r fun q=>nth (nth T q) j).toNat)++List.replicate (w-j) 0)) w (apV T n w f r) (fun j hj=>by
  obtain ⟨⟨d,d1,d2,_⟩,_⟩:=hf.at h8 (hy j hj)
  have l1 : ∀b,Am (Df a f w T (j:Int) b) (0,0)=some (hT n r fun q=>nth (nth T q) j):=fun b=>by
   refine Avn n r _ (fun q hq=> ?_) fun q=>by unfold Df;dsimp only;rw [if_neg (by omega)]
   obtain ⟨b1,b2⟩:=hrow _ (As (show q<T.length by omega))
   have b3:=hy j hj q hq
   obtain ⟨c,c1,_,c3⟩:=Aej (n:=n) (r:=q) (y:=fun q=>nth (nth T q) j) h8 (by omega) (fun q' hq'=>hy j hj q' (by omega))
   have q5:(c:Int)*(n:Int)=((c*n:Nat):Int):=by push_cast;rfl
   have q6:c*n≤512*8:=Nat.mul_le_mul (by omega) h8
   unfold Df
   dsimp only
   rw [if_pos (by omega),hsz,c1,q5,Ag (by omega),Ag (by unfold InI;omega),Int.toNat_natCast,Ag (by omega),Int.toNat_natCast,Ag (by unfold InI;omega),Ag (by unfold InI;omega)]
   rfl
  unfold Cq
  dsimp only
  rw [if_pos (by rw [Int.toNat_natCast];omega),l1]
  simp only [Option.bind_some]
  rw [d1,Ag (by omega),Ag (by simp;omega),Ag (by unfold InI;omega),Int.toNat_natCast,A2j _ _ _ hj (by simp),Int.toNat_natCast,List.range_succ,List.map_append]
  simp only [List.map_cons,List.map_nil]
  rw [d1]
  rfl) (by
  unfold Cq
  dsimp only
  rw [if_neg (by rw [Int.toNat_natCast];omega),Nat.sub_self]
  simp [apV])
 have key':Am (Cq a f w T) (0,List.replicate w 0)=some (apV T n w f r):=key
 rw [key'];rfl
noncomputable def Jr (a:SAlgebra):Int:=if a.Ops.foldl (fun m f=>if f.Arity>m then f.Arity else m) 0=3 then 40 else if a.Ops.foldl (fun m f=>if f.Arity>m then f.Arity else m) 0=2 then 200 else 300
theorem Adk (a:SAlgebra):40≤Jr a∧Jr a≤300:=by
 unfold Jr
 split
 ·decide
 ·split<;>decide
theorem W0 (hl:a.Ops.length≤1048576):Db a=some (Jr a):=by
 unfold Db
 have key:=B9 (body:=Cz a) (fun i=>((i:Int),(a.Ops.take i).foldl (fun m f=>if f.Arity>m then f.Arity else m) 0)) a.Ops.length (a.Ops.foldl (fun m f=>if f.Arity>m then f.Arity else m) 0) (fun i hi=>by
  unfold Cz
  dsimp only
  rw [if_pos (by omega),Ag (by omega),Ag (by unfold InI;omega),Int.toNat_natCast,Dx hi,List.foldl_append]
  rfl) (by
  unfold Cz
  dsimp only
  rw [if_neg (by omega),List.take_of_length_le (Nat.le_refl _)])
 have key':Am (Cz a) (0,0)=_:=key
 rw [key']
 simp only [Option.bind_some,Jr]
 split
 ·rfl
 ·split<;>rfl
theorem Awn (hl:a.Ops.length≤1048576):F7 a=some (Jr a):=by
 unfold F7
 have key:=B9 (body:=C2 a) (fun i=>((i:Int),(a.Ops.take i).foldl (fun m f=>if f.Arity>m then f.Arity else m) 0)) a.Ops.length (a.Ops.foldl (fun m f=>if f.Arity>m then f.Arity else m) 0) (fun i hi=>by
  unfold C2
  dsimp only
  rw [if_pos (by omega),Ag (by omega),Ajx]
  simp only [Option.bind_some]
  rw [Ag (by unfold InI;omega),Int.toNat_natCast,Dx hi,List.foldl_append]
  simp only [List.foldl_cons,List.foldl_nil]
  generalize List.foldl (fun m f=>if f.Arity>m then f.Arity else m) 0 (List.take i a.Ops)=m
  generalize (nth a.Ops i).Arity=q
  rw [show (if m>q then m else q)=(if q>m then q else m) by split<;>split<;>omega]
  rfl) (by
  unfold C2
  dsimp only
  rw [if_neg (by omega),List.take_of_length_le (Nat.le_refl _)])
 have key':Am (C2 a) (0,0)=_:=key
 rw [key']
 simp only [Option.bind_some,Jr]
 split
 ·rfl
 ·split<;>rfl
def Kq (n w:Int) (T:List (List Int)):Prop := ∀i,i<T.length→((nth T i).length:Int)=w∧Bh (nth T i) n
theorem Agj {T:List (List Int)} (hl:T.length≤1048576) (hr : ∀t∈T,t.length≤1048576) (w:Int):Gc a w T=some (decide (Kq a.Size w T)):=by
 have hL:=Av
 unfold Gc
 have h:=Eo (body:=C6 a w T) (fun i=>(i:Int)) T.length (fun i=>¬(((nth T i).length:Int)=w∧Bh (nth T i) a.Size)) () () (fun i hi hb=>by
  have:=hr _ (As hi)
  unfold C6
  try dsimp only
  rw [if_pos (by omega),Ag (by omega),Int.toNat_natCast,if_neg (fun h=>hb fun h2=>h h2.1),Zq _ _ (by omega)]
  simp only [Option.bind_some]
  rw [if_pos (by have:=Classical.not_not.1 hb;simpa using this.2),Ag (by unfold InI;omega)]
  rfl) (fun i hi hb=>by
  have:=hr _ (As hi)
  unfold C6
  try dsimp only
  rw [if_pos (by omega),Ag (by omega),Int.toNat_natCast]
  by_cases hk:((nth T i).length:Int)=w
  ·rw [if_neg (by omega),Zq _ _ (by omega)]
   simp only [Option.bind_some]
   rw [if_neg (by simpa using fun h=>hb ⟨hk,h⟩)]
  ·rw [if_pos hk]) (by
  unfold C6
  try dsimp only
  rw [if_neg (by omega)])
 refine (I1 (h 0 (Nat.zero_le _)) false true).trans ?_
 congr 1
 refine Tj ?_
 constructor
 ·intro h1 i hi
  exact Classical.byContradiction fun h2=>h1 ⟨i,Nat.zero_le _,hi,h2⟩
 ·rintro h1 ⟨i,_,hi,h2⟩
  exact h2 (h1 i hi)
theorem Abt {T:List (List Int)} {n:Nat} (hn:n≤8) (hl:T.length≤1048576) (hr : ∀t∈T,t.length≤1048576) (w:Int):Fr n w T=some (decide (Kq n w T∧1≤w∧w≤64)):=by
 have hL:=Av
 have one : ∀t:List Int,t.length≤1048576→J7 n w t=some (decide ((t.length:Int)=w∧Bh t n)):=fun t ht=>by
  unfold J7
  by_cases hk:(t.length:Int)=w
  ·rw [if_pos hk,Apg _ _ (by omega) (by omega)]
   simp only [Option.bind_some]
   congr 1
   exact decide_eq_decide.2 ⟨fun h=>⟨hk,h⟩,fun h=>h.2⟩
  ·rw [if_neg hk]
   congr 1
   symm;rw [decide_eq_false_iff_not];exact fun h=>hk h.1
 unfold Fr
 have h:=Eo (body:=Dn n w T) (fun i=>(i:Int)) T.length (fun i=>¬(((nth T i).length:Int)=w∧Bh (nth T i) n)) () () (fun i hi hb=>by
  have:=hr _ (As hi)
  unfold Dn
  try dsimp only
  rw [if_pos (by omega),Ag (by omega),Int.toNat_natCast,one _ this]
  simp only [Option.bind_some]
  rw [if_pos (by simpa using Classical.not_not.1 hb),Ag (by unfold InI;omega)]
  rfl) (fun i hi hb=>by
  have:=hr _ (As hi)
  unfold Dn
  try dsimp only
  rw [if_pos (by omega),Ag (by omega),Int.toNat_natCast,one _ this]
  simp only [Option.bind_some]
  rw [if_neg (by simpa using hb)]) (by
  unfold Dn
  try dsimp only
  rw [if_neg (by omega)])
 have h0:=h 0 (Nat.zero_le _)
 rw [show ((0:Nat):Int)=0 from rfl] at h0
 rw [h0,Ui]
 simp only [Option.bind_some]
 by_cases hb : ∃i,0≤i∧i<T.length∧¬(((nth T i).length:Int)=w∧Bh (nth T i) n)
 ·rw [if_pos hb]
  show some false=_
  congr 1
  symm;rw [decide_eq_false_iff_not]
  rintro ⟨h1,_⟩
  obtain ⟨i,_,hi,h2⟩:=hb
  exact h2 (h1 i hi)
 ·rw [if_neg hb]
  show some (decide (1≤w∧w≤64))=_
  congr 1
  exact decide_eq_decide.2 ⟨fun h=>⟨fun i hi=>Classical.byContradiction fun h2=>hb ⟨i,Nat.zero_le _,hi,h2⟩,h⟩,fun h=>h.2⟩
end
end Go.Proofs.Ytmmcfdfdacpjgaa.Ax
namespace Go.Proofs.Ytmmcfdfdacpjgaa.Ax
open Go Classical
theorem Azy {s1 s2:Sspan→SOp→List (List Int)→Int→Int→Bool→Option (Bool×Sspan)} (h : ∀s f xs o m b,LeO (s1 s f xs o m b) (s2 s f xs o m b)) (s:Sspan) (f:SOp) (xs:List (List Int)) (o m:Int) (b:Bool) :
  LeO (Bp s1 s f xs o m b) (Bp s2 s f xs o m b):=by
 unfold Bp
 refine LeO.ite (LeO.refl _) (LeO.bind (LeO.loop (fun q=> ?_) _) fun _=>LeO.refl _)
 obtain ⟨x,y⟩:=q
 unfold Cv
 dsimp only
 exact LeO.ite (LeO.ask (LeO.ask (LeO.ite (LeO.bind (h _ _ _ _ _ _) fun _=>LeO.refl _) (LeO.bind (h _ _ _ _ _ _) fun _=>LeO.refl _)))) (LeO.refl _)
theorem A3l (s:Sspan) (f:SOp) (xs:List (List Int)) (o m:Int) (b:Bool):upO fun k=>A9 k s f xs o m b:=by
 have step : ∀k s f xs o m b,LeO (A9 k s f xs o m b) (A9 (k+1) s f xs o m b):=by
  intro k
  induction k with
  | zero=>intro s f xs o m b v e;cases e
  | succ k ih=>intro s f xs o m b;exact Azy ih s f xs o m b
 intro n m' v hnm e
 obtain ⟨k,rfl⟩ : ∃k,m'=n+k:=⟨m'-n,by omega⟩
 clear hnm
 induction k with
 | zero=>exact e
 | succ k ih=>exact step (n+k) s f xs o m b v ih
def Am1 (n w:Nat) (t:List Int):Prop:=t.length=w∧Bh t n
theorem Am1.key {n w:Nat} (h8:n≤8) {t:List Int} (h:Am1 n w t) : ∀x∈t,0≤x∧x<65536:=fun x hx=>by have:=h.2 x hx;omega
structure SpOk (a:SAlgebra) (n w:Nat) (s:Sspan):Prop where
 alg:s.a=a
 len:s.k=w
 row : ∀t∈s.list,Am1 n w t
 key : ∀t,Am1 n w t→(Dz s.at_ (Al7 t)).isSome=decide (t∈s.list)
section
variable {a:SAlgebra} {n w:Nat} (hsz:a.Size=n) (h8:n≤8) (hw:w≤1000) (hol:a.Ops.length≤1048576)
include hsz h8 hw hol
omit hsz hol in
theorem Any {s:Sspan} (h:SpOk a n w s) (hl:s.list.length≤1000) {t:List Int} (ht:Am1 n w t) :
  ∃s',Fl s t=some ((),s')∧SpOk a n w s'∧s'.list=if t∈s.list then s.list else s.list++[t]:=by
 have hL:=Av
 have hk:=ht.1
 unfold Fl
 rw [Apy (by omega)]
 simp only [Option.bind_some]
 rw [h.key t ht]
 by_cases hm:t∈s.list
 ·rw [if_pos (by simpa using hm)]
  exact ⟨s,rfl,h,by rw [if_pos hm]⟩
 ·rw [if_neg (by simpa using hm),Ag (by simp;omega)]
  refine ⟨_,rfl,⟨h.alg,h.len,?_,?_⟩,by rw [if_neg hm]⟩
  ·intro u hu
   rcases List.mem_append.1 hu with hu | hu
   ·exact h.row u hu
   ·rw [List.mem_singleton.1 hu];exact ht
  ·intro u hu
   show (Dz (L9 s.at_ (Al7 t) (s.list.length:Int)) (Al7 u)).isSome=_
   rw [Aex]
   by_cases e:u=t
   ·subst e;simp
   ·rw [if_neg fun hh=>e (Asw (hu.key h8) (ht.key h8) hh),h.key u hu]
    refine decide_eq_decide.2 ?_
    simp [e]
variable {f:SOp} {r:Nat} (hf:OpQ n r f) (hfa:f.Arity=r)
include hf hfa
omit hsz hw hol hfa in
theorem A07 {T:List (List Int)} (hT:T.length=r) (hr : ∀t∈T,Am1 n w t):Am1 n w (apV T n w f r):=by
 refine ⟨Sz _ _ _ _ _,fun v hv=> ?_⟩
 obtain ⟨j,hj,rfl⟩:=List.mem_map.1 hv
 refine (hf.at h8 fun q hq=> ?_).2
 obtain ⟨b1,b2⟩:=hr _ (As (show q<T.length by omega))
 exact b2 _ (As (by have:=List.mem_range.1 hj;omega))
structure AppP (s:Sspan) (args:List (List Int)) (d old many:Nat) (Fw:Bool) (b:Bool) (s':Sspan):Prop where
 ok:SpOk a n w s'
 pre:s.list <+: s'.list
 le:b=decide ((s'.list.length:Int)≤Jr a)
 few:s'.list.length≤302
 all:old=0→b=true→(Fw=true∨r=0∨0<d) → ∀xs:List (List Int),xs.length=d→(∀x∈xs,x∈s.list.take many)→apV (args++xs) n w f r∈s'.list
 same:(∀xs:List (List Int),xs.length=d→(∀x∈xs,x∈s.list)→apV (args++xs) n w f r∈s.list)→s'.list=s.list
theorem Az7 (old many:Nat) : ∀d k,d<k → ∀(s:Sspan) (args:List (List Int)) (Fw:Bool),SpOk a n w s→(s.list.length:Int)≤Jr a→many≤s.list.length→args.length+d=r→(∀t∈args,Am1 n w t) →
  ∃b s',A9 k s f args old many Fw=some (b,s')∧AppP (a:=a) (n:=n) (w:=w) (f:=f) (r:=r) s args d old many Fw b s':=by
 have hL:=Av
 have hm:=Adk a
 intro d
 induction d with
 | zero=>
   intro k hk s args Fw hs hle hmany hargs hrow
   obtain ⟨k,rfl⟩ : ∃j,k=j+1:=⟨k-1,by omega⟩
   show ∃b s',Bp (A9 k) s f args old many Fw=some (b,s')∧_
   unfold Bp
   rw [if_pos (by omega)]
   have hT:args.length=r:=by omega
   have hv:=A07 h8 hf hT hrow
   have add : ∃s1,((Cx s.a f s.k args).bind fun r6=>(Fl s r6).bind fun (_,u8)=>some u8)=some s1∧SpOk a n w s1∧s1.list=if apV args n w f r∈s.list then s.list else s.list++[apV args n w f r]:=by
    rw [hs.alg,hs.len,R8 hsz h8 hf hT hrow hw]
    simp only [Option.bind_some]
    obtain ⟨s1,e1,h1,h2⟩:=Any h8 hw hs (by omega) hv
    rw [e1]
    exact ⟨s1,rfl,h1,h2⟩
   have fin : ∀s1:Sspan,SpOk a n w s1→((Db s1.a).bind fun r10=>some (decide ((s1.list.length:Int)≤r10),s1))=some (decide ((s1.list.length:Int)≤Jr a),s1):=fun s1 h1=>by
    rw [h1.alg,W0 hol];rfl
   obtain ⟨s1,e1,h1,h2⟩:=add
   have post1:AppP (a:=a) (n:=n) (w:=w) (f:=f) (r:=r) s args 0 old many Fw (decide ((s1.list.length:Int)≤Jr a)) s1:=by
    have hin:apV args n w f r∈s1.list:=by
     rw [h2];split
     ·assumption
     ·simp
    refine ⟨h1,?_,rfl,?_,fun _ _ _ xs hx _=> ?_,fun hall=> ?_⟩
    ·rw [h2];split
     ·exact List.prefix_refl _
     ·exact List.prefix_append _ _
    ·rw [h2];split
     ·omega
     ·rw [List.length_append];simp only [List.length_cons,List.length_nil];omega
    ·rw [List.length_eq_zero_iff.1 hx,List.append_nil];exact hin
    ·have:=hall [] rfl (by simp)
     rw [List.append_nil] at this
     rw [h2,if_pos this]
   have post0:(¬(Fw=true∨(r=0∧old=0)))→AppP (a:=a) (n:=n) (w:=w) (f:=f) (r:=r) s args 0 old many Fw (decide ((s.list.length:Int)≤Jr a)) s:=fun hno=>
    ⟨hs,List.prefix_refl _,rfl,by omega,fun h0 _ h3=>absurd (h3.elim .inl fun h4=>h4.elim (fun h5=> .inr ⟨h5,h0⟩) fun h5=>by omega) hno,fun _=>rfl⟩
   by_cases hfr:Fw=true
   ·rw [if_pos hfr]
    simp only [Option.bind_some,if_true]
    rw [e1]
    simp only [Option.bind_some]
    rw [fin s1 h1]
    exact ⟨_,_,rfl,post1⟩
   ·rw [if_neg hfr]
    by_cases hr0:r=0
    ·rw [if_pos (by omega)]
     by_cases ho:old=0
     ·simp only [Option.bind_some]
      rw [if_pos (by rw [ho];rfl),e1]
      simp only [Option.bind_some]
      rw [fin s1 h1]
      exact ⟨_,_,rfl,post1⟩
     ·simp only [Option.bind_some]
      rw [if_neg (by simpa using ho)]
      simp only [Option.bind_some]
      rw [fin s hs]
      exact ⟨_,_,rfl,post0 fun h=>h.elim hfr fun h=>ho h.2⟩
    ·rw [if_neg (by omega)]
     simp only [Option.bind_some,Bool.false_eq_true,if_false]
     rw [fin s hs]
     exact ⟨_,_,rfl,post0 fun h=>h.elim hfr fun h=>hr0 h.1⟩
 | succ d ih=>
   intro k hk s args Fw hs hle hmany hargs hrow
   obtain ⟨k,rfl⟩ : ∃j,k=j+1:=⟨k-1,by omega⟩
   show ∃b s',Bp (A9 k) s f args old many Fw=some (b,s')∧_
   unfold Bp
   rw [if_neg (by omega)]
   obtain ⟨t,e,ht⟩:=Cc (body:=Cv (A9 k) f args old many Fw)
    (fun q => ∃i:Nat,q.1=(i:Int)∧i≤many∧SpOk a n w q.2∧s.list <+: q.2.list∧(q.2.list.length:Int)≤Jr a ∧
     (old=0 → ∀j,j<i → ∀ys:List (List Int),ys.length=d→(∀y∈ys,y∈s.list.take many)→apV (args++nth s.list j::ys) n w f r∈q.2.list) ∧
     ((∀xs:List (List Int),xs.length=d+1→(∀x∈xs,x∈s.list)→apV (args++xs) n w f r∈s.list)→q.2.list=s.list))
    (fun q=>many-q.1.toNat)
    (fun t=>match t with
     | .inl s'=>AppP (a:=a) (n:=n) (w:=w) (f:=f) (r:=r) s args (d+1) old many Fw false s'
     | .inr s'=>AppP (a:=a) (n:=n) (w:=w) (f:=f) (r:=r) s args (d+1) old many Fw true s') (by
    rintro ⟨x,st⟩ ⟨i,hx,hi,h1,h2,h3,h4,h5⟩
    dsimp only at hx h1 h2 h3 h4 h5
    subst hx
    unfold Cv
    dsimp only
    have hpl:=h2.length_le
    by_cases him:i<many
    ·have hnth:nth st.list i=nth s.list i:=by
      obtain ⟨z,hz⟩:=h2
      rw [←hz,Gz (by omega)]
     have hrn:Am1 n w (nth s.list i):=hs.row _ (As (by omega))
     have go : ∀fr:Bool,(old=0→fr=true) → ∃b s',A9 k st f (args++[nth s.list i]) old many fr=some (b,s') ∧
       AppP (a:=a) (n:=n) (w:=w) (f:=f) (r:=r) st (args++[nth s.list i]) d old many fr b s':=fun fr _=>
      ih k (by omega) st (args++[nth s.list i]) fr h1 h3 (by omega) (by simp;omega) fun t ht=>by
       rcases List.mem_append.1 ht with ht | ht
       ·exact hrow t ht
       ·rw [List.mem_singleton.1 ht];exact hrn
     have next : ∀fr:Bool,(old=0→fr=true)→(∃s',((A9 k st f (args++[nth s.list i]) old many fr).bind fun (r3,u4)=>if r3=true then ask (InI ((i:Int)+1))<|some (.inl ((i:Int)+1,u4)) else some (.inr (.inl u4)):Option ((Int×Sspan) ⊕ (Sspan ⊕ Sspan)))=some (.inl s') ∧
       (∃i':Nat,s'.1=(i':Int)∧i'≤many∧SpOk a n w s'.2∧s.list <+: s'.2.list∧(s'.2.list.length:Int)≤Jr a ∧
        (old=0 → ∀j,j<i' → ∀ys:List (List Int),ys.length=d→(∀y∈ys,y∈s.list.take many)→apV (args++nth s.list j::ys) n w f r∈s'.2.list) ∧
        ((∀xs:List (List Int),xs.length=d+1→(∀x∈xs,x∈s.list)→apV (args++xs) n w f r∈s.list)→s'.2.list=s.list))∧many-s'.1.toNat<many-((i:Int)).toNat) ∨
       (∃t,((A9 k st f (args++[nth s.list i]) old many fr).bind fun (r3,u4)=>if r3=true then ask (InI ((i:Int)+1))<|some (.inl ((i:Int)+1,u4)) else some (.inr (.inl u4)):Option ((Int×Sspan) ⊕ (Sspan ⊕ Sspan)))=some (.inr t)∧(match t with
        | .inl s'=>AppP (a:=a) (n:=n) (w:=w) (f:=f) (r:=r) s args (d+1) old many Fw false s'
        | .inr s'=>AppP (a:=a) (n:=n) (w:=w) (f:=f) (r:=r) s args (d+1) old many Fw true s')):=by
      intro fr hfr
      obtain ⟨b,s',e,hp⟩:=go fr hfr
      have happ : ∀ys:List (List Int),args++[nth s.list i]++ys=args++nth s.list i::ys:=fun ys=>by simp
      have hsame:(∀xs:List (List Int),xs.length=d+1→(∀x∈xs,x∈s.list)→apV (args++xs) n w f r∈s.list)→s'.list=s.list:=fun hall=>by
       have h6:=h5 hall
       rw [hp.same fun xs hx hxm=> ?_,h6]
       rw [h6] at hxm ⊢
       rw [happ]
       refine hall _ (by simp [hx]) fun z hz=> ?_
       rcases List.mem_cons.1 hz with rfl | hz
       ·exact As (by omega)
       ·exact hxm z hz
      rw [e]
      simp only [Option.bind_some]
      cases b with
      | true=>
        rw [if_pos rfl,Ag (by unfold InI;omega)]
        refine .inl ⟨_,rfl,⟨i+1,rfl,him,hp.ok,h2.trans hp.pre,by have:=hp.le;simpa using this,fun h0 j hj ys hy hym=> ?_,hsame⟩,by dsimp only;omega⟩
        by_cases ej:j=i
        ·subst ej
         rw [←happ]
         refine hp.all h0 rfl (.inl (hfr h0)) ys hy fun y hy2=> ?_
         obtain ⟨z,hz⟩:=h2
         rw [←hz,List.take_append_of_le_length (by omega)]
         exact hym y hy2
        ·exact hp.pre.subset (h4 h0 j (by omega) ys hy hym)
      | false=>
        rw [if_neg (by decide)]
        exact .inr ⟨_,rfl,hp.ok,h2.trans hp.pre,by have:=hp.le;simpa using this,hp.few,fun _ hb=>absurd hb (by decide),hsame⟩
     rw [if_pos (by omega),Ag (by omega),Int.toNat_natCast,hnth,Ag (by have:=hf.le;simp;omega)]
     by_cases hfr:Fw=true
     ·rw [if_pos hfr];exact next true fun _=>rfl
     ·rw [if_neg hfr];exact next _ fun h0=>by rw [decide_eq_true_eq,h0];omega
    ·rw [if_neg (by omega)]
     refine .inr ⟨_,rfl,h1,h2,by symm;simpa using h3,by omega,fun h0 _ _ xs hx hxm=> ?_,h5⟩
     match xs,hx with
     | x::ys,hx=>
       obtain ⟨j,hj,ej⟩:=Gv.1 (hxm x (by simp))
       rw [List.length_take] at hj
       have ex:nth s.list j=x:=by
        rw [←ej,D6 (by omega),D6 (by rw [List.length_take];omega),List.getElem_take]
       rw [←ex]
       exact h4 h0 j (by omega) ys (by simpa using hx) fun y hy=>hxm y (by simp [hy])) (s:=((0:Int),s)) ⟨0,rfl,Nat.zero_le _,hs,List.prefix_refl _,hle,fun _ j hj=>by omega,fun _=>rfl⟩
   rw [e]
   simp only [Option.bind_some]
   cases t with
   | inl s'=>exact ⟨_,_,rfl,ht⟩
   | inr s'=>exact ⟨_,_,rfl,ht⟩
theorem A0q {s:Sspan} (hs:SpOk a n w s) (hle:(s.list.length:Int)≤Jr a) {old many:Nat} (hmany:many≤s.list.length) :
  ∃b s',He s f (Ar (List Int)) old many false=some (b,s',Ar (List Int))∧AppP (a:=a) (n:=n) (w:=w) (f:=f) (r:=r) s [] r old many false b s':=by
 obtain ⟨b,s',e,h⟩:=Az7 hsz h8 hw hol hf hfa old many r (r+1) (Nat.lt_succ_self _) s [] false hs hle hmany (by simp) (by simp)
 unfold He
 rw [A10 (A3l s f [] old many false) e]
 exact ⟨b,s',rfl,h⟩
end
end Go.Proofs.Ytmmcfdfdacpjgaa.Ax
namespace Go.Proofs.Ytmmcfdfdacpjgaa.Ax
open Go Classical
theorem A2a {xs:List Int} (h:xs.length≤LIM):Mu xs=some xs:=by
 unfold Mu
 rw [Ag (by show 0+xs.length≤_;omega)];rfl
def arQ (a:SAlgebra) (i:Nat):Nat:=(nth a.Ops i).Arity.toNat
def Im (a:SAlgebra) (n w:Nat) (T:List (List Int)):Prop := ∀i,i<a.Ops.length → ∀xs:List (List Int),xs.length=arQ a i→(∀x∈xs,x∈T)→apV xs n w (nth a.Ops i) (arQ a i)∈T
def upT (T:List (List Int)):Prop := ∀i,0<i→i<T.length→Pk (nth T (i-1)) (nth T i)
def Awr (a:SAlgebra) (n w:Nat) (T:List (List Int)):Prop:=(T.length:Int)≤Jr a∧Kq n w T∧upT T∧Im a n w T
theorem Kq.row {n w:Nat} {T:List (List Int)} (h:Kq n w T) : ∀t∈T,Am1 n w t:=fun t ht=>by
 obtain ⟨i,hi,e⟩:=Gv.1 ht
 obtain ⟨h1,h2⟩:=h i hi
 rw [e] at h1 h2
 exact ⟨by omega,h2⟩
theorem Aij {n w:Nat} {T:List (List Int)} (h:Kq n w T) (h2:upT T):SrtW w T:=⟨fun t ht=>(h.row t ht).1,h2⟩
section
variable {a:SAlgebra} {n w:Nat} (ga:Dp a) (hsz:a.Size=n) (hw:w≤64)
include ga hsz hw
omit hw in
theorem Gp:n≤8∧1≤n∧a.Ops.length≤4:=by
 obtain ⟨h1,h2,h3,_⟩:=ga
 omega
omit hw in
theorem Km {i:Nat} (hi:i<a.Ops.length):OpQ n (arQ a i) (nth a.Ops i)∧(nth a.Ops i).Arity=(arQ a i:Nat)∧arQ a i≤3∧Apn n (nth a.Ops i):=by
 obtain ⟨h1,h2⟩:=A24 ga hsz hi
 have h3:=h2.1
 have h4:=h2.2.1
 exact ⟨h1,by unfold arQ;omega,by unfold arQ;omega,h2⟩
theorem Auk {s:Sspan} (hs:SpOk a n w s) (hle:(s.list.length:Int)≤Jr a) (old:Nat) :
  ∃t,Am (Dw a old s) (0,s)=some t∧(match t with
    | .inl _=>¬Im a n w s.list
    | .inr s'=>SpOk a n w s'∧s.list <+: s'.list∧(s'.list.length:Int)≤Jr a∧(Im a n w s.list→s'.list=s.list) ∧
      (old=0 → ∀i,i<a.Ops.length → ∀xs:List (List Int),xs.length=arQ a i→(∀x∈xs,x∈s.list)→apV xs n w (nth a.Ops i) (arQ a i)∈s'.list)):=by
 obtain ⟨h8,_,ho4⟩:=Gp ga hsz
 refine Cc (body:=Dw a old s) (fun q => ∃i:Nat,q.1=(i:Int)∧i≤a.Ops.length∧SpOk a n w q.2∧s.list <+: q.2.list∧(q.2.list.length:Int)≤Jr a∧(Im a n w s.list→q.2.list=s.list) ∧
  (old=0 → ∀j,j<i → ∀xs:List (List Int),xs.length=arQ a j→(∀x∈xs,x∈s.list)→apV xs n w (nth a.Ops j) (arQ a j)∈q.2.list)) (fun q=>a.Ops.length-q.1.toNat) _ ?_ (s:=((0:Int),s)) ⟨0,rfl,Nat.zero_le _,hs,List.prefix_refl _,hle,fun _=>rfl,fun _ j hj=>by omega⟩
 rintro ⟨x,st⟩ ⟨i,hx,hi,h1,h2,h3,h4,h5⟩
 dsimp only at hx h1 h2 h3 h4 h5
 subst hx
 unfold Dw
 dsimp only
 by_cases hio:i<a.Ops.length
 ·obtain ⟨q1,q2,q3,_⟩:=Km ga hsz hio
  have hpl:=h2.length_le
  obtain ⟨b,s',e,hp⟩:=A0q hsz h8 (by omega) (by omega) q1 q2 h1 h3 (old:=old) (many:=s.list.length) hpl
  rw [if_pos (by omega),Ag (by omega),Int.toNat_natCast,e]
  simp only [Option.bind_some]
  have htk:st.list.take s.list.length=s.list:=by
   obtain ⟨z,hz⟩:=h2
   rw [←hz,List.take_append_of_le_length (Nat.le_refl _),List.take_of_length_le (Nat.le_refl _)]
  have hsame:Im a n w s.list→s'.list=s.list:=fun hc=>by
   have h6:=h4 hc
   rw [hp.same fun xs hx hxm=> ?_,h6]
   rw [h6] at hxm ⊢
   exact hc i hio xs hx hxm
  cases b with
  | true=>
    rw [if_pos rfl,Ag (by unfold InI;omega)]
    refine .inl ⟨_,rfl,⟨i+1,rfl,hio,hp.ok,h2.trans hp.pre,by have:=hp.le;simpa using this,hsame,fun h0 j hj xs hx hxm=> ?_⟩,by dsimp only;omega⟩
    by_cases ej:j=i
    ·subst ej
     refine hp.all h0 rfl ?_ xs hx fun y hy=>by rw [htk];exact hxm y hy
     by_cases hr:arQ a j=0
     ·exact .inr (.inl hr)
     ·exact .inr (.inr (by omega))
    ·exact hp.pre.subset (h5 h0 j (by omega) xs hx hxm)
  | false=>
    rw [if_neg (by decide)]
    refine .inr ⟨_,rfl,fun hc=> ?_⟩
    have h6:=hp.le
    rw [hsame hc] at h6
    have:=of_decide_eq_false h6.symm
    exact this hle
 ·rw [if_neg (by omega)]
  have:i=a.Ops.length:=by omega
  subst this
  exact .inr ⟨_,rfl,h1,h2,h3,h4,h5⟩
theorem Axu {T:List (List Int)} (hle:(T.length:Int)≤Jr a) (hr:Kq n w T) (hus:upT T) :
  ∃o b,K4 a w T=some (o,b)∧(b=true → ∃s,o=some s∧((s.list.length=T.length)↔Im a n w T))∧(b=false→¬Im a n w T):=by
 have hL:=Av
 have hm:=Adk a
 obtain ⟨h8,_,ho4⟩:=Gp ga hsz
 have hsrt:=Aij hr hus
 unfold K4
 obtain ⟨s0,e0,g1,g2⟩:=Cc (body:=H5 a T) (fun q => ∃i:Nat,q.1=(i:Int)∧i≤T.length∧SpOk a n w q.2∧q.2.list=T.take i) (fun q=>T.length-q.1.toNat) (fun s=>SpOk a n w s∧s.list=T) (by
  rintro ⟨x,st⟩ ⟨i,hx,hi,h1,h2⟩
  dsimp only at hx h1 h2
  subst hx
  unfold H5
  dsimp only
  by_cases hio:i<T.length
  ·have hrow:=hr.row _ (As hio)
   have hlen:=hrow.1
   obtain ⟨s',e,h3,h4⟩:=Any h8 (by omega) h1 (by rw [h2,List.length_take];omega) hrow
   have hnot:nth T i∉st.list:=by
    rw [h2]
    intro hm
    obtain ⟨j,hj,ej⟩:=Gv.1 hm
    rw [List.length_take] at hj
    have e2:nth (T.take i) j=nth T j:=by rw [D6 (by rw [List.length_take];omega),D6 (by omega),List.getElem_take]
    rw [e2] at ej
    have:=hsrt.uniq (show j<T.length by omega) hio ej
    omega
   rw [if_neg hnot] at h4
   rw [if_pos (by omega),Ag (by omega),Int.toNat_natCast,A2a (by omega)]
   simp only [Option.bind_some]
   rw [e]
   simp only [Option.bind_some]
   rw [Ag (by unfold InI;omega)]
   exact .inl ⟨_,rfl,⟨i+1,rfl,hio,h3,by rw [h4,h2,Dx hio]⟩,by dsimp only;omega⟩
  ·rw [if_neg (by omega)]
   exact .inr ⟨_,rfl,h1,by rw [h2,List.take_of_length_le (by omega)]⟩) (s:=((0:Int),({ a:=a,k:=(w:Int),list:=Ar (List Int),at_:=Ar (ByteArray×Int) }:Sspan)))
  ⟨0,rfl,Nat.zero_le _,⟨rfl,rfl,fun t ht=>(by cases ht),fun t _=>by simp [Dz]⟩,rfl⟩
 rw [e0]
 simp only [Option.bind_some]
 rw [W0 (by omega)]
 simp only [Option.bind_some]
 rw [if_neg (by rw [g2];omega)]
 obtain ⟨t,e1,ht⟩:=Cc (body:=Hv a) (fun q => ∃old:Nat,q.2.1=(old:Int)∧SpOk a n w q.2.2∧T <+: q.2.2.list∧(q.2.2.list.length:Int)≤Jr a∧old≤q.2.2.list.length∧(q.1=true→old=0∧q.2.2.list=T) ∧
   (Im a n w T→q.2.2.list=T)∧(q.1=false→q.2.2.list=T→Im a n w T)) (fun q=>if q.1=true then 1000 else 500-q.2.1.toNat)
  (fun t=>match t with
   | .inl _=>¬Im a n w T
   | .inr s=>(s.list.length=T.length)↔Im a n w T) (by
  rintro ⟨b,x,st⟩ ⟨old,hx,h1,h2,h3,h4,h5,h6,h7⟩
  dsimp only at hx h1 h2 h3 h4 h5 h6 h7
  subst hx
  have hround:=Auk ga hsz hw h1 h3 old
  have step:(b=true∨old<st.list.length)→((∃s',((Am (Dw a old st) (0,st)).bind fun t=>match t with
    | (.inl _)=>(some (.inr (.inl ())))
    | (.inr q20_8)=>(some (.inl (false,(st.list.length:Int),q20_8))):Option ((Bool×Int×Sspan) ⊕ (Unit ⊕ Sspan)))=some (.inl s')∧(∃old':Nat,s'.2.1=(old':Int)∧SpOk a n w s'.2.2∧T <+: s'.2.2.list∧(s'.2.2.list.length:Int)≤Jr a∧old'≤s'.2.2.list.length∧(s'.1=true→old'=0∧s'.2.2.list=T) ∧
      (Im a n w T→s'.2.2.list=T)∧(s'.1=false→s'.2.2.list=T→Im a n w T))∧(if s'.1=true then 1000 else 500-s'.2.1.toNat)<(if b=true then 1000 else 500-((old:Int)).toNat)) ∨
    ∃t,((Am (Dw a old st) (0,st)).bind fun t=>match t with
    | (.inl _)=>(some (.inr (.inl ())))
    | (.inr q20_8)=>(some (.inl (false,(st.list.length:Int),q20_8))):Option ((Bool×Int×Sspan) ⊕ (Unit ⊕ Sspan)))=some (.inr t)∧(match t with
      | .inl _=>¬Im a n w T
      | .inr s=>(s.list.length=T.length)↔Im a n w T)):=by
   intro hgo
   obtain ⟨t,e,ht⟩:=hround
   rw [e]
   simp only [Option.bind_some]
   cases t with
   | inl u=>
     refine .inr ⟨_,rfl,fun hc=>ht ?_⟩
     rw [h6 hc];exact hc
   | inr s'=>
     obtain ⟨k1,k2,k3,k4,k5⟩:=ht
     refine .inl ⟨_,rfl,⟨st.list.length,rfl,k1,h2.trans k2,k3,k2.length_le,fun hb=>(by cases hb),fun hc=> ?_,fun _ hst=> ?_⟩,?_⟩
     ·have:=h6 hc
      rw [k4 (by rw [this];exact hc),this]
     ·dsimp only at hst
      have hst2:st.list=T:=by
       have e2:st.list.length=T.length:=by have:=h2.length_le;have:=k2.length_le;rw [hst] at this;omega
       exact (h2.eq_of_length e2.symm).symm
      by_cases hb:b=true
      ·obtain ⟨h0,_⟩:=h5 hb
       intro i hi xs hx hxm
       rw [←hst]
       exact k5 h0 i hi xs hx (by rw [hst2];exact hxm)
      ·exact h7 (by simpa using hb) hst2
     ·have hlen:(st.list.length:Int)≤300:=by omega
      simp only [Bool.false_eq_true,if_false]
      rw [Int.toNat_natCast,Int.toNat_natCast]
      split
      ·omega
      ·rename_i hb
       have:=hgo.resolve_left hb
       omega
  unfold Hv
  dsimp only
  by_cases hb:b=true
  ·rw [if_pos hb]
   simp only [Option.bind_some]
   exact step (.inl hb)
  ·rw [if_neg hb]
   by_cases hlt:old<st.list.length
   ·rw [if_pos (by omega)]
    simp only [Option.bind_some]
    exact step (.inr hlt)
   ·rw [if_neg (by omega)]
    simp only [Option.bind_some]
    refine .inr ⟨_,rfl,fun hl=>h7 (by simpa using hb) (h2.eq_of_length hl.symm).symm,fun hc=>by rw [h6 hc]⟩) (s:=(true,(0:Int),s0)) ⟨0,rfl,g1,by rw [g2];exact List.prefix_refl _,by rw [g2];exact hle,Nat.zero_le _,fun _=>⟨rfl,g2⟩,fun _=>g2,fun hb=>by cases hb⟩
 rw [e1]
 simp only [Option.bind_some]
 cases t with
 | inl u=>exact ⟨_,_,rfl,fun hb=>(by cases hb),fun _=>ht⟩
 | inr s=>exact ⟨_,_,rfl,fun _=>⟨s,rfl,ht⟩,fun hb=>by cases hb⟩
theorem Amj {T:List (List Int)} (hl:T.length≤1048576) (hr : ∀t∈T,t.length≤1048576):Hf a w T=some (decide (Awr a n w T)):=by
 have hL:=Av
 obtain ⟨h8,_,ho4⟩:=Gp ga hsz
 unfold Hf
 rw [W0 (by omega)]
 simp only [Option.bind_some]
 by_cases h1:(T.length:Int)≤Jr a
 case neg=>
  rw [if_pos (by omega)]
  show some false=_
  congr 1;symm;rw [decide_eq_false_iff_not];exact fun h=>h1 h.1
 rw [if_neg (by omega),Agj hl hr,hsz]
 simp only [Option.bind_some]
 by_cases h2:Kq n w T
 case neg=>
  rw [if_neg (by simpa using h2)]
  show some false=_
  congr 1;symm;rw [decide_eq_false_iff_not];exact fun h=>h2 h.2.1
 rw [if_pos (by simpa using h2)]
 simp only [Option.bind_some]
 have hf:=Aci (body:=Cw a w T) (fun i=>(i:Int)) 1 (max 1 T.length) (fun i=>¬Pk (nth T (i-1)) (nth T i)) () () (by omega) (fun i h0 hi hb=>by
  have e1:=(h2.row _ (As (show i-1<T.length by omega))).1
  have e2:=(h2.row _ (As (show i<T.length by omega))).1
  obtain ⟨c,ec,hc⟩:=Zx (a:=nth T (i-1)) (b:=nth T i) (by omega) (by omega)
  unfold Cw
  try dsimp only
  rw [if_pos (by omega),Ag (by unfold InI;omega),Ag (by omega),Ag (by omega),show ((i:Int)-1)=((i-1:Nat):Int) by omega,Int.toNat_natCast,Int.toNat_natCast,ec]
  simp only [Option.bind_some]
  rw [if_neg (hc.2 (Classical.not_not.1 hb)),Ag (by unfold InI;omega)]
  rfl) (fun i h0 hi hb=>by
  have e1:=(h2.row _ (As (show i-1<T.length by omega))).1
  have e2:=(h2.row _ (As (show i<T.length by omega))).1
  obtain ⟨c,ec,hc⟩:=Zx (a:=nth T (i-1)) (b:=nth T i) (by omega) (by omega)
  unfold Cw
  try dsimp only
  rw [if_pos (by omega),Ag (by unfold InI;omega),Ag (by omega),Ag (by omega),show ((i:Int)-1)=((i-1:Nat):Int) by omega,Int.toNat_natCast,Int.toNat_natCast,ec]
  simp only [Option.bind_some]
  rw [if_pos (Classical.byContradiction fun hh=>hb (hc.1 hh))]) (by
  unfold Cw
  try dsimp only
  rw [if_neg (by omega)])
 rw [show ((1:Nat):Int)=1 from rfl] at hf
 rw [hf]
 simp only [Option.bind_some]
 by_cases h3:upT T
 case neg=>
  rw [if_pos ?_]
  ·show some false=_
   congr 1;symm;rw [decide_eq_false_iff_not];exact fun h=>h3 h.2.2.1
  ·refine Classical.byContradiction fun hno=>h3 fun i h0 hi=>Classical.byContradiction fun hh=>hno ⟨i,h0,by omega,hh⟩
 rw [if_neg (by rintro ⟨i,h0,hi,hh⟩;exact hh (h3 i h0 (by omega)))]
 simp only
 obtain ⟨o,b,e,k1,k2⟩:=Axu ga hsz hw h1 h2 h3
 rw [e]
 simp only [Option.bind_some]
 cases b with
 | true=>
   obtain ⟨s,rfl,hiff⟩:=k1 rfl
   simp only [if_true]
   congr 1
   rw [show ((s.list.length:Int)==(T.length:Int))=decide (s.list.length=T.length) by rw [Bool.eq_iff_iff];simp only [beq_iff_eq,decide_eq_true_eq];omega]
   exact decide_eq_decide.2 ⟨fun h=>⟨h1,h2,h3,hiff.1 h⟩,fun h=>hiff.2 h.2.2.2⟩
 | false=>
   have:decide (Awr a n w T)=false:=decide_eq_false fun h=>k2 rfl h.2.2.2
   rw [this]
   cases o with
   | none=>rfl
   | some s=>rfl
end
end Go.Proofs.Ytmmcfdfdacpjgaa.Ax
namespace Go.Proofs.Ytmmcfdfdacpjgaa.Ax
open Go Classical
theorem Ags {line:List (List Int)} {xs:List Int} (hl:xs.length≤1048576) (hx:Bh xs line.length):G1 line xs=some (xs.map fun i=>nth line i.toNat):=by
 have hL:=Av
 unfold G1
 have key:=B9 (body:=Dl line xs) (fun i=>((i:Int),(xs.take i).map fun i=>nth line i.toNat)) xs.length (xs.map fun i=>nth line i.toNat) (fun i hi=>by
  have:=hx _ (As hi)
  unfold Dl
  dsimp only
  rw [if_pos (by omega),Ag (by omega),Int.toNat_natCast,Ag (by omega),Ag (by simp;omega),Ag (by unfold InI;omega),Dx hi,List.map_append]
  rfl) (by
  unfold Dl
  dsimp only
  rw [if_neg (by omega),List.take_of_length_le (by omega)])
 have key':Am (Dl line xs) (0,Ar (List Int))=_:=key
 rw [key'];rfl
def D2 (T:List (List Int)) (xs:List Int):List (List Int):=xs.map fun i=>nth T i.toNat
theorem Abg {T:List (List Int)} {xs:List Int} (hx:Bh xs T.length) : ∀t∈D2 T xs,t∈T:=fun t ht=>by
 obtain ⟨i,hi,rfl⟩:=List.mem_map.1 ht
 have:=hx i hi
 exact As (by omega)
theorem Axa {T:List (List Int)} : ∀ {ts:List (List Int)},(∀t∈ts,t∈T) → ∃xs:List Int,xs.length=ts.length∧Bh xs T.length∧D2 T xs=ts:=by
 intro ts
 induction ts with
 | nil=>intro _;exact ⟨[],rfl,fun x hx=>(by cases hx),rfl⟩
 | cons t r ih=>
   intro h
   obtain ⟨xs,h1,h2,h3⟩:=ih fun y hy=>h y (by simp [hy])
   obtain ⟨i,hi,e⟩:=Gv.1 (h t (by simp))
   refine ⟨(i:Int)::xs,by simp [h1],fun x hx=> ?_,?_⟩
   ·rcases List.mem_cons.1 hx with rfl | hx
    ·omega
    ·exact h2 x hx
   ·show nth T ((i:Int)).toNat::D2 T xs=_
    rw [Int.toNat_natCast,e,h3]
section
variable {a:SAlgebra} {n w:Nat} (ga:Dp a) (hsz:a.Size=n) (hw:w≤64)
include ga hsz hw
theorem Ave {T:List (List Int)} (hle:T.length≤300) (hr:Kq n w T) (hus:upT T) {i:Nat} (hi:i<a.Ops.length) :
  Am (Di a w T i) (decide (arQ a i=0∨0<T.length),List.replicate (arQ a i) 0)=some (if ∀xs:List (List Int),xs.length=arQ a i→(∀x∈xs,x∈T)→apV xs n w (nth a.Ops i) (arQ a i)∈T then .inr () else .inl ()):=by
 have hL:=Av
 obtain ⟨h8,_,ho4⟩:=Gp ga hsz
 obtain ⟨q1,q2,q3,_⟩:=Km ga hsz hi
 have hsrt:=Aij hr hus
 have one : ∀xs:List Int,xs.length=arQ a i→Bh xs T.length→Di a w T i (true,xs)=(if apV (D2 T xs) n w (nth a.Ops i) (arQ a i)∈T then (Dj xs T.length).bind fun r25=>some (.inl (r25.2,r25.1)) else some (.inr (.inl ()))):=fun xs hx hxs=>by
  unfold Di
  dsimp only
  rw [if_pos rfl,Ags (by omega) hxs]
  simp only [Option.bind_some]
  have hrow : ∀t∈D2 T xs,t.length=w∧Bh t n:=fun t ht=>hr.row t (Abg hxs t ht)
  have e1:=(R2 hsz h8 hi (by omega) q1 (T:=D2 T xs) (by simp [D2,hx]) hrow (by omega)).1
  rw [show (xs.map fun i=>nth T i.toNat)=D2 T xs from rfl,e1]
  simp only [Option.bind_some]
  obtain ⟨k,ek,_⟩:=Ang (T:=T) (w:=w) (by omega) (by omega) hsrt (t:=apV (D2 T xs) n w (nth a.Ops i) (arQ a i)) (Sz _ _ _ _ _)
  rw [ek]
  simp only [Option.bind_some,decide_eq_true_eq]
 by_cases hr0:arQ a i=0
 ·have e0:List.replicate (arQ a i) (0:Int)=[]:=by rw [hr0];rfl
  rw [e0,decide_eq_true (Or.inl hr0)]
  have e1:=one [] (by rw [hr0];rfl) fun x hx=>(by cases hx)
  have hiff:(∀xs:List (List Int),xs.length=arQ a i→(∀x∈xs,x∈T)→apV xs n w (nth a.Ops i) (arQ a i)∈T)↔apV (D2 T []) n w (nth a.Ops i) (arQ a i)∈T:=by
   constructor
   ·intro h;exact h [] (by rw [hr0];rfl) fun x hx=>(by cases hx)
   ·intro h xs hx _
    rw [hr0] at hx
    rw [List.length_eq_zero_iff.1 hx];exact h
  by_cases hin:apV (D2 T []) n w (nth a.Ops i) (arQ a i)∈T
  ·rw [if_pos (hiff.2 hin)]
   rw [if_pos hin] at e1
   have e2:Dj [] T.length=some ([],false):=by
    unfold Dj
    rw [Atg (by simp)]
    simp only [Option.bind_some]
    rw [Ag (by unfold InI;simp)]
    have:Am (Ev (T.length:Int)) ((([]:List Int).length:Int)-1,[])=some (.inr []):=In (by
     unfold Ev
     dsimp only
     rw [if_neg (by simp)])
    rw [this];rfl
   rw [e2] at e1
   refine (R0 e1).trans (In ?_)
   unfold Di
   rfl
  ·rw [if_neg fun h=>hin (hiff.1 h)]
   rw [if_neg hin] at e1
   exact In e1
 ·by_cases hT:0<T.length
  case neg=>
   rw [decide_eq_false (by omega),if_pos fun xs hx hxm=> ?_]
   ·refine In ?_
    unfold Di
    rfl
   ·match xs,hx with
    | [],hx=>exact absurd hx.symm hr0
    | x::_,_=>
      have:=List.length_pos_of_mem (hxm x (by simp))
      exact absurd this hT
  rw [decide_eq_true (Or.inr hT)]
  obtain ⟨N,hN⟩ : ∃N,N=T.length:=⟨_,rfl⟩
  have hall : ∀xs:List Int,xs.length=arQ a i→Bh xs N→(Hr N xs).toNat<N^arQ a i:=fun xs hx hxs=>by
   obtain ⟨c,c1,c2⟩:=Wu (m:=N) (arQ a i) xs hx hxs
   rw [c1,Int.toNat_natCast];exact c2
  obtain ⟨t,e,ht⟩:=Cc (body:=Di a w T i) (fun q=>q.2.length=arQ a i∧Bh q.2 N∧(q.1=true → ∀k,k<(Hr N q.2).toNat→apV (D2 T (Ia N (arQ a i) k)) n w (nth a.Ops i) (arQ a i)∈T) ∧
    (q.1=false → ∀k,k<N^arQ a i→apV (D2 T (Ia N (arQ a i) k)) n w (nth a.Ops i) (arQ a i)∈T)) (fun q=>if q.1=true then 1+(N^arQ a i-(Hr N q.2).toNat) else 0)
   (fun t=>match t with
    | .inl _ => ∃xs:List Int,xs.length=arQ a i∧Bh xs N∧apV (D2 T xs) n w (nth a.Ops i) (arQ a i)∉T
    | .inr _ => ∀k,k<N^arQ a i→apV (D2 T (Ia N (arQ a i) k)) n w (nth a.Ops i) (arQ a i)∈T) (by
   rintro ⟨b,xs⟩ ⟨h1,h2,h3,h4⟩
   dsimp only at h1 h2 h3 h4
   cases b with
   | false=>
     refine .inr ⟨.inr (),?_,h4 rfl⟩
     unfold Di
     rfl
   | true=>
     rw [one xs h1 (by rw [←hN];exact h2)]
     by_cases hin:apV (D2 T xs) n w (nth a.Ops i) (arQ a i)∈T
     ·rw [if_pos hin]
      obtain ⟨ys,b,e,y1,y2,y3,y4⟩:=Anw (N:=N) h1 (by omega) (by omega) (by omega) h2
      rw [←hN,e]
      simp only [Option.bind_some]
      have hx:Ia N (arQ a i) (Hr N xs).toNat=xs:=Anj (by omega) (arQ a i) xs h1 h2
      obtain ⟨c,c1,c2⟩:=Wu (m:=N) (arQ a i) xs h1 h2
      rw [c1,Int.toNat_natCast] at hx h3
      refine .inl ⟨_,rfl,⟨y1,y2,fun hb k hk=> ?_,fun hb k hk=> ?_⟩,?_⟩
      ·rw [y3 hb,c1] at hk
       by_cases ek:k=c
       ·rw [ek,hx];exact hin
       ·exact h3 rfl k (by omega)
      ·have:=y4 hb
       rw [c1] at this
       by_cases ek:k=c
       ·rw [ek,hx];exact hin
       ·exact h3 rfl k (by omega)
      ·dsimp only
       rw [if_pos trivial,c1,Int.toNat_natCast]
       split
       ·rename_i hb
        rw [y3 hb,c1]
        obtain ⟨c',c3,c4⟩:=Wu (m:=N) (arQ a i) ys y1 y2
        rw [y3 hb,c1] at c3
        omega
       ·omega
     ·rw [if_neg hin]
      exact .inr ⟨_,rfl,xs,h1,h2,hin⟩) (s:=(true,List.replicate (arQ a i) 0)) ⟨by simp,fun x hx=>by rw [List.mem_replicate] at hx;omega,fun _ k hk=>by
     have e0:=Akn N [] (arQ a i)
     rw [List.nil_append,show Hr N []=0 from rfl,Int.zero_mul] at e0
     rw [e0] at hk;simp at hk,fun hb=>by cases hb⟩
  rw [e]
  cases t with
  | inl u=>
    obtain ⟨xs,h1,h2,h3⟩:=ht
    rw [if_neg fun h=>h3 (h _ (by simp [D2,h1]) (Abg (by rw [←hN];exact h2)))]
  | inr u=>
    rw [if_pos fun ts hts htm=> ?_]
    obtain ⟨xs,h1,h2,h3⟩:=Axa htm
    rw [←hN] at h2
    have hx:Ia N (arQ a i) (Hr N xs).toNat=xs:=Anj (by omega) (arQ a i) xs (by omega) h2
    have:=ht _ (hall xs (by omega) h2)
    rw [hx,h3] at this
    exact this
theorem A12 {T:List (List Int)} (hw1:1≤w) (hl:T.length≤1048576) (hr : ∀t∈T,t.length≤1048576):Pl a w T=some (decide (Awr a n w T)):=by
 have hL:=Av
 have hm:=Adk a
 obtain ⟨h8,_,ho4⟩:=Gp ga hsz
 unfold Pl
 rw [Awn (by omega)]
 simp only [Option.bind_some]
 by_cases h1:(T.length:Int)≤Jr a
 case neg=>
  rw [if_pos (by omega)]
  show some false=_
  congr 1;symm;rw [decide_eq_false_iff_not];exact fun h=>h1 h.1
 rw [if_neg (by omega),hsz,Abt h8 hl hr]
 simp only [Option.bind_some]
 by_cases h2:Kq n w T
 case neg=>
  rw [if_neg (by rw [decide_eq_true_eq];exact fun h=>h2 h.1)]
  show some false=_
  congr 1;symm;rw [decide_eq_false_iff_not];exact fun h=>h2 h.2.1
 rw [if_pos (by rw [decide_eq_true_eq];exact ⟨h2,by omega,by omega⟩)]
 simp only [Option.bind_some]
 have hf:=Aci (body:=Gd a w T) (fun i=>(i:Int)) 1 (max 1 T.length) (fun i=>¬Pk (nth T (i-1)) (nth T i)) () () (by omega) (fun i h0 hi hb=>by
  have e1:=(h2.row _ (As (show i-1<T.length by omega))).1
  have e2:=(h2.row _ (As (show i<T.length by omega))).1
  unfold Gd
  try dsimp only
  rw [if_pos (by omega),Ag (by unfold InI;omega),Ag (by omega),Ag (by omega),show ((i:Int)-1)=((i-1:Nat):Int) by omega,Int.toNat_natCast,Int.toNat_natCast,Aad (by omega) (by omega)]
  simp only [Option.bind_some]
  rw [if_pos (by simpa using Classical.not_not.1 hb),Ag (by unfold InI;omega)]
  rfl) (fun i h0 hi hb=>by
  have e1:=(h2.row _ (As (show i-1<T.length by omega))).1
  have e2:=(h2.row _ (As (show i<T.length by omega))).1
  unfold Gd
  try dsimp only
  rw [if_pos (by omega),Ag (by unfold InI;omega),Ag (by omega),Ag (by omega),show ((i:Int)-1)=((i-1:Nat):Int) by omega,Int.toNat_natCast,Int.toNat_natCast,Aad (by omega) (by omega)]
  simp only [Option.bind_some]
  rw [if_neg (by simpa using hb)]) (by
  unfold Gd
  try dsimp only
  rw [if_neg (by omega)])
 rw [show ((1:Nat):Int)=1 from rfl] at hf
 rw [hf]
 simp only [Option.bind_some]
 by_cases h3:upT T
 case neg=>
  rw [if_pos ?_]
  ·show some false=_
   congr 1;symm;rw [decide_eq_false_iff_not];exact fun h=>h3 h.2.2.1
  ·refine Classical.byContradiction fun hno=>h3 fun i h0 hi=>Classical.byContradiction fun hh=>hno ⟨i,h0,by omega,hh⟩
 rw [if_neg (by rintro ⟨i,h0,hi,hh⟩;exact hh (h3 i h0 (by omega)))]
 simp only
 have hg:=Eo (body:=Gh a w T) (fun i=>(i:Int)) a.Ops.length (fun i=>¬ ∀xs:List (List Int),xs.length=arQ a i→(∀x∈xs,x∈T)→apV xs n w (nth a.Ops i) (arQ a i)∈T) () () (fun i hi hb=>by
  obtain ⟨q1,q2,q3,_⟩:=Km ga hsz hi
  unfold Gh
  try dsimp only
  rw [if_pos (by omega),Int.toNat_natCast,Ag (by omega),Ag (by omega),Ag (by omega)]
  have e0:(if (nth a.Ops i).Arity=0 then some true else some (decide ((T.length:Int)>0)):Option Bool)=some (decide (arQ a i=0∨0<T.length)):=by
   by_cases hz:arQ a i=0
   ·rw [if_pos (by omega),decide_eq_true (.inl hz)]
   ·rw [if_neg (by omega)]
    congr 1
    exact decide_eq_decide.2 ⟨fun h=> .inr (by omega),fun h=>by omega⟩
  rw [e0]
  simp only [Option.bind_some]
  rw [show (nth a.Ops i).Arity.toNat=arQ a i from rfl,Ave ga hsz hw (by omega) h2 h3 hi,if_pos (Classical.not_not.1 hb)]
  simp only [Option.bind_some]
  rw [Ag (by unfold InI;omega)]
  rfl) (fun i hi hb=>by
  obtain ⟨q1,q2,q3,_⟩:=Km ga hsz hi
  unfold Gh
  try dsimp only
  rw [if_pos (by omega),Int.toNat_natCast,Ag (by omega),Ag (by omega),Ag (by omega)]
  have e0:(if (nth a.Ops i).Arity=0 then some true else some (decide ((T.length:Int)>0)):Option Bool)=some (decide (arQ a i=0∨0<T.length)):=by
   by_cases hz:arQ a i=0
   ·rw [if_pos (by omega),decide_eq_true (.inl hz)]
   ·rw [if_neg (by omega)]
    congr 1
    exact decide_eq_decide.2 ⟨fun h=> .inr (by omega),fun h=>by omega⟩
  rw [e0]
  simp only [Option.bind_some]
  rw [show (nth a.Ops i).Arity.toNat=arQ a i from rfl,Ave ga hsz hw (by omega) h2 h3 hi,if_neg hb]
  rfl) (by
  unfold Gh
  try dsimp only
  rw [if_neg (by omega)])
 have hg0:=hg 0 (Nat.zero_le _)
 rw [show ((0:Nat):Int)=0 from rfl] at hg0
 refine (I1 hg0 false true).trans ?_
 congr 1
 refine Tj ?_
 constructor
 ·intro h
  exact ⟨h1,h2,h3,fun i hi=>Classical.byContradiction fun hh=>h ⟨i,Nat.zero_le _,hi,hh⟩⟩
 ·rintro h ⟨i,_,hi,hh⟩
  exact hh (h.2.2.2 i hi)
end
end Go.Proofs.Ytmmcfdfdacpjgaa.Ax
namespace Go.Proofs.Ytmmcfdfdacpjgaa.Ax
open Go Classical
theorem Av2 {b:SAlgebra} (hl:b.Ops.length≤1048576) (ht : ∀f∈b.Ops,f.Table.length≤1048576):G2 b b=some true:=by
 have hL:=Av
 unfold G2
 rw [if_neg (by simp),if_neg (by simp)]
 simp only [Option.bind_some]
 have h:=Eo (body:=El b b) (fun i=>(i:Int)) b.Ops.length (fun _=>False) () () (fun i hi _=>by
  have:=ht _ (As hi)
  unfold El
  try dsimp only
  rw [if_pos (by omega),Int.toNat_natCast,Ag (by omega),Ag (by omega),if_neg (by simp),Ag (by omega),Ag (by omega),Aro (by omega)]
  simp only [Option.bind_some,if_true]
  rw [Ag (by unfold InI;omega)]
  rfl) (fun i hi hb=>hb.elim) (by
  unfold El
  try dsimp only
  rw [if_neg (by omega)])
 have h0:=h 0 (Nat.zero_le _)
 rw [show ((0:Nat):Int)=0 from rfl,if_neg (by simp)] at h0
 rw [h0];rfl
noncomputable def Ahx (T:List (List Int)) (t:List Int):Nat:=if h : ∃i,i<T.length∧nth T i=t then Classical.choose h else 0
theorem Aac {T:List (List Int)} {t:List Int} (h:t∈T):Ahx T t<T.length∧nth T (Ahx T t)=t:=by
 have hx : ∃i,i<T.length∧nth T i=t:=Gv.1 h
 unfold Ahx
 rw [dif_pos hx]
 exact Classical.choose_spec hx
def Ads (a:SAlgebra) (n w:Nat) (T:List (List Int)) (i k:Nat):List Int:=apV (D2 T (Ia T.length (arQ a i) k)) n w (nth a.Ops i) (arQ a i)
noncomputable def Ahn (a:SAlgebra) (n w:Nat) (T:List (List Int)) (i:Nat):SOp:={ Arity:=(nth a.Ops i).Arity,Table:=(List.range (T.length^arQ a i)).map fun k=>((Ahx T (Ads a n w T i k):Nat):Int) }
noncomputable def Ve (a:SAlgebra) (n w:Nat) (T:List (List Int)):SAlgebra:={ Size:=(T.length:Int),Ops:=(List.range a.Ops.length).map (Ahn a n w T) }
section
variable {a:SAlgebra} {n w:Nat} {T:List (List Int)} (ga:Dp a) (hsz:a.Size=n) (hw:w≤64) (hP:Awr a n w T) (h1:1≤T.length) (h8:T.length≤8)
include ga hsz hw hP h1 h8
omit ga hsz hw hP h8 in
theorem Afz {i k:Nat}:(D2 T (Ia T.length (arQ a i) k)).length=arQ a i ∧ ∀t∈D2 T (Ia T.length (arQ a i) k),t∈T:=
 ⟨by simp [D2,M1],Abg (Ad6 (by omega) _ _)⟩
omit ga hsz hw h8 in
theorem Aes {i k:Nat} (hi:i<a.Ops.length):Ads a n w T i k∈T:=by
 obtain ⟨r1,r2⟩:=Afz (a:=a) (i:=i) (k:=k) h1
 exact hP.2.2.2 i hi _ r1 r2
omit ga hsz hw hP in
theorem Avb {r:Nat} (hr:r≤3):T.length^r≤512∧1≤T.length^r:=by
 refine ⟨Wn h8 hr,Nat.one_le_iff_ne_zero.2 fun h=> ?_⟩
 have:=Nat.pow_eq_zero.1 h
 omega
theorem Aw0 {M:List (ByteArray×Int)} (hM : ∀j,j<T.length→Dz M (Al7 (nth T j))=some (j:Int)) {x:SAlgebra} (hx:x.Size=(T.length:Int)) {i:Nat} (hi:i<a.Ops.length) :
  Am (Bw a w T M i x) (0,{ Arity:=(nth a.Ops i).Arity,Table:=Ar Int })=some (Ahn a n w T i):=by
 have hL:=Av
 obtain ⟨n8,_,ho4⟩:=Gp ga hsz
 obtain ⟨q1,q2,q3,_⟩:=Km ga hsz hi
 obtain ⟨p1,p2⟩:=Avb h1 h8 q3
 have hpow:G7 x.Size (nth a.Ops i).Arity=some ((T.length^arQ a i:Nat):Int):=by rw [hx,q2];exact Au9 h8 q3
 have key:=B9 (body:=Bw a w T M i x) (fun k=>((k:Int),({ Arity:=(nth a.Ops i).Arity,Table:=(List.range k).map fun k=>((Ahx T (Ads a n w T i k):Nat):Int) }:SOp))) (T.length^arQ a i) (Ahn a n w T i) (fun k hk=>by
  obtain ⟨r1,r2⟩:=Afz (a:=a) (T:=T) (i:=i) (k:=k) h1
  have hm:=Aes hP h1 hi (k:=k)
  obtain ⟨i1,i2⟩:=Aac hm
  have hin:=Ad6 (n:=T.length) (by omega) (arQ a i) k
  have hrow : ∀t∈D2 T (Ia T.length (arQ a i) k),t.length=w∧Bh t n:=fun t ht=>hP.2.1.row t (r2 t ht)
  have l2 : ∀q:SOp,Am (Bx a w T M i x (k:Int) q (Ia T.length (arQ a i) k)) (0,Ar (List Int))=some (D2 T (Ia T.length (arQ a i) k)):=fun q=>by
   have key2:=B9 (body:=Bx a w T M i x (k:Int) q (Ia T.length (arQ a i) k)) (fun j=>((j:Int),((Ia T.length (arQ a i) k).take j).map fun i=>nth T i.toNat)) (Ia T.length (arQ a i) k).length (D2 T (Ia T.length (arQ a i) k)) (fun j hj=>by
    have:=hin _ (As hj)
    rw [M1] at hj
    unfold Bx
    dsimp only
    rw [M1,if_pos (by omega),Ag (by omega),Int.toNat_natCast,Ag (by omega),Ag (by simp;omega),Ag (by unfold InI;omega),Dx (by rw [M1];exact hj),List.map_append]
    rfl) (by
    unfold Bx
    dsimp only
    rw [if_neg (by omega),List.take_of_length_le (Nat.le_refl _)]
    rfl)
   exact key2
  unfold Bw
  dsimp only
  rw [Int.toNat_natCast,hpow]
  simp only [Option.bind_some]
  rw [if_pos (by omega),hx,q2,A0h (by omega) h8 q3 (by omega)]
  simp only [Option.bind_some]
  rw [l2]
  simp only [Option.bind_some]
  rw [R8 hsz n8 q1 r1 hrow (by omega)]
  simp only [Option.bind_some]
  rw [Apy (by rw [Sz];omega)]
  simp only [Option.bind_some]
  have hkey:Dz M (Al7 (apV (D2 T (Ia T.length (arQ a i) k)) n w (nth a.Ops i) (arQ a i)))=some ((Ahx T (Ads a n w T i k):Nat):Int):=by
   have:=hM _ i1
   rw [i2] at this
   exact this
  rw [hkey,Ag (by simp;omega),Ag (by unfold InI;omega),List.range_succ,List.map_append]
  rfl) (by
  unfold Bw
  dsimp only
  rw [Int.toNat_natCast,hpow]
  simp only [Option.bind_some]
  rw [if_neg (by omega)]
  rfl)
 exact key
theorem Aw7 {x:SAlgebra} (hx:x.Size=(T.length:Int)) {i:Nat} (hi:i<a.Ops.length) :
  Am (C5 a w T i x) (0,{ Arity:=(nth a.Ops i).Arity,Table:=Ar Int })=some (Ahn a n w T i):=by
 have hL:=Av
 obtain ⟨n8,_,ho4⟩:=Gp ga hsz
 obtain ⟨q1,q2,q3,_⟩:=Km ga hsz hi
 obtain ⟨p1,p2⟩:=Avb h1 h8 q3
 have hsrt:=Aij hP.2.1 hP.2.2.1
 have hpow:F1 x.Size (nth a.Ops i).Arity=some ((T.length^arQ a i:Nat):Int):=by rw [hx,q2];exact Aps h8 q3
 have key:=B9 (body:=C5 a w T i x) (fun k=>((k:Int),({ Arity:=(nth a.Ops i).Arity,Table:=(List.range k).map fun k=>((Ahx T (Ads a n w T i k):Nat):Int) }:SOp))) (T.length^arQ a i) (Ahn a n w T i) (fun k hk=>by
  obtain ⟨r1,r2⟩:=Afz (a:=a) (T:=T) (i:=i) (k:=k) h1
  have hm:=Aes hP h1 hi (k:=k)
  obtain ⟨i1,i2⟩:=Aac hm
  have hin:=Ad6 (n:=T.length) (by omega) (arQ a i) k
  have hrow : ∀t∈D2 T (Ia T.length (arQ a i) k),t.length=w∧Bh t n:=fun t ht=>hP.2.1.row t (r2 t ht)
  obtain ⟨c,e,hc⟩:=Ang (T:=T) (w:=w) (by omega) (by omega) hsrt (t:=Ads a n w T i k) (Sz _ _ _ _ _)
  obtain ⟨c1,c2⟩:=hc hm
  have hci:c=Ahx T (Ads a n w T i k):=hsrt.uniq c1 i1 (by rw [c2,i2])
  unfold C5
  dsimp only
  rw [hpow]
  simp only [Option.bind_some]
  rw [if_pos (by omega),hx,q2,Arb (by omega) h8 q3 (by omega)]
  simp only [Option.bind_some]
  rw [Ags (by rw [M1];omega) hin]
  simp only [Option.bind_some]
  rw [show ((Ia T.length (arQ a i) k).map fun i=>nth T i.toNat)=D2 T (Ia T.length (arQ a i) k) from rfl,(R2 hsz n8 hi (by omega) q1 r1 hrow (by omega)).1]
  simp only [Option.bind_some]
  rw [show apV (D2 T (Ia T.length (arQ a i) k)) n w (nth a.Ops i) (arQ a i)=Ads a n w T i k from rfl,e]
  simp only [Option.bind_some]
  rw [Ag (by simp;omega),Ag (by unfold InI;omega),List.range_succ,List.map_append,hci]
  rfl) (by
  unfold C5
  dsimp only
  rw [hpow]
  simp only [Option.bind_some]
  rw [if_neg (by omega)]
  rfl)
 exact key
theorem Ax0:((Am (B8 a w T) (0,Ar (ByteArray×Int))).bind fun q10_8=>(Am (Bn a w T q10_8) (0,{ Size:=(T.length:Int),Ops:=Ar SOp })).bind fun q26_11=>some (q26_11,true))=some (Ve a n w T,true):=by
 have hL:=Av
 obtain ⟨n8,_,ho4⟩:=Gp ga hsz
 have hsrt:=Aij hP.2.1 hP.2.2.1
 obtain ⟨M,e,hM⟩:=Cc (body:=B8 a w T) (fun q => ∃i:Nat,q.1=(i:Int)∧i≤T.length ∧ ∀j,j<i→Dz q.2 (Al7 (nth T j))=some (j:Int)) (fun q=>T.length-q.1.toNat) (fun M => ∀j,j<T.length→Dz M (Al7 (nth T j))=some (j:Int)) (by
  rintro ⟨x,M⟩ ⟨i,hx,hi,h⟩
  dsimp only at hx h
  subst hx
  unfold B8
  dsimp only
  by_cases hio:i<T.length
  ·have hrow:=hP.2.1.row _ (As hio)
   have hlen:=hrow.1
   rw [if_pos (by omega),Ag (by omega),Int.toNat_natCast,Apy (by omega)]
   simp only [Option.bind_some]
   rw [Ag (by unfold InI;omega)]
   refine .inl ⟨_,rfl,⟨i+1,rfl,hio,fun j hj=> ?_⟩,by dsimp only;omega⟩
   dsimp only
   rw [Aex]
   by_cases ej:j=i
   ·subst ej;rw [if_pos rfl]
   ·rw [if_neg fun hk=>ej ?_]
    ·exact h j (by omega)
    ·exact hsrt.uniq (by omega) hio (Asw ((hP.2.1.row _ (As (by omega))).key n8) (hrow.key n8) hk)
  ·rw [if_neg (by omega)]
   exact .inr ⟨_,rfl,fun j hj=>h j (by omega)⟩) (s:=((0:Int),Ar (ByteArray×Int))) ⟨0,rfl,Nat.zero_le _,fun j hj=>by omega⟩
 rw [e]
 simp only [Option.bind_some]
 have key:=B9 (body:=Bn a w T M) (fun i=>((i:Int),({ Size:=(T.length:Int),Ops:=(List.range i).map (Ahn a n w T) }:SAlgebra))) a.Ops.length (Ve a n w T) (fun i hi=>by
  unfold Bn
  dsimp only
  rw [if_pos (by omega),Ag (by omega),Int.toNat_natCast,Aw0 ga hsz hw hP h1 h8 hM rfl hi]
  simp only [Option.bind_some]
  rw [Ag (by simp;omega),Ag (by unfold InI;omega),List.range_succ,List.map_append]
  rfl) (by
  unfold Bn
  dsimp only
  rw [if_neg (by omega)]
  rfl)
 have key':Am (Bn a w T M) (0,{ Size:=(T.length:Int),Ops:=Ar SOp })=some (Ve a n w T):=key
 rw [key'];rfl
theorem Axx:H9 a w T=some (Ve a n w T):=by
 have hL:=Av
 obtain ⟨n8,_,ho4⟩:=Gp ga hsz
 unfold H9
 have key:=B9 (body:=C9 a w T) (fun i=>((i:Int),({ Size:=(T.length:Int),Ops:=(List.range i).map (Ahn a n w T) }:SAlgebra))) a.Ops.length (Ve a n w T) (fun i hi=>by
  unfold C9
  dsimp only
  rw [if_pos (by omega),Ag (by omega),Int.toNat_natCast,Aw7 ga hsz hw hP h1 h8 rfl hi]
  simp only [Option.bind_some]
  rw [Ag (by simp;omega),Ag (by unfold InI;omega),List.range_succ,List.map_append]
  rfl) (by
  unfold C9
  dsimp only
  rw [if_neg (by omega)]
  rfl)
 have key':Am (C9 a w T) (0,{ Size:=(T.length:Int),Ops:=Ar SOp })=some (Ve a n w T):=key
 rw [key'];rfl
omit hw in
theorem Am5:Dp (Ve a n w T):=by
 obtain ⟨n8,_,ho4⟩:=Gp ga hsz
 refine ⟨by show (1:Int)≤(T.length:Int);omega,by show (T.length:Int)≤8;omega,by simp [Ve];omega,fun f hf=> ?_⟩
 obtain ⟨i,hi,rfl⟩:=List.mem_map.1 hf
 rw [List.mem_range] at hi
 obtain ⟨q1,q2,q3,_⟩:=Km ga hsz hi
 refine ⟨by show 0≤(nth a.Ops i).Arity;omega,by show (nth a.Ops i).Arity≤3;omega,?_,fun x hx=> ?_⟩
 ·show ((List.range (T.length^arQ a i)).map _).length=((T.length:Int)).toNat^(nth a.Ops i).Arity.toNat
  rw [List.length_map,List.length_range,Int.toNat_natCast];rfl
 ·obtain ⟨k,_,rfl⟩:=List.mem_map.1 hx
  have:=(Aac (Aes hP h1 hi (k:=k))).1
  show 0≤((Ahx T (Ads a n w T i k):Nat):Int)∧((Ahx T (Ads a n w T i k):Nat):Int)<(((T.length:Int)).toNat:Int)
  rw [Int.toNat_natCast];omega
omit ga hsz hw hP h1 h8 in
theorem Awo:Kr (Ve a n w T)=Kr a:=by
 unfold Kr Ve
 simp only [List.map_map]
 refine Pf (by simp) fun i hi=> ?_
 rw [List.length_map,List.length_range] at hi
 rw [Dr _ (by simpa using hi),Ma hi,Dr _ hi]
 rfl
end
def Aid (a:SAlgebra) (k:Int) (T:List (List Int)):Prop:=Dp a∧1≤k∧k≤64∧Awr a a.Size.toNat k.toNat T
section
variable {a:SAlgebra} {k:Int} {T:List (List Int)} (ha:Ku a) (hl:T.length≤1048576) (hr : ∀t∈T,t.length≤1048576)
include ha hl hr
theorem Asj:Ew a k T=some (decide (Aid a k T)):=by
 unfold Ew
 rw [L4 ha]
 simp only [Option.bind_some]
 by_cases g:Dp a
 case neg=>
  rw [if_neg (by simpa using g)]
  congr 1;symm;rw [decide_eq_false_iff_not];exact fun h=>g h.1
 rw [if_pos (by simpa using g)]
 unfold G0
 by_cases k1:k≥1
 case neg=>
  rw [if_neg k1]
  simp only [Option.bind_some,Bool.false_eq_true,if_false]
  congr 1;symm;rw [decide_eq_false_iff_not];exact fun h=>k1 h.2.1
 rw [if_pos k1]
 simp only [Option.bind_some]
 by_cases k2:k≤64
 case neg=>
  rw [if_neg (by simpa using k2)]
  congr 1;symm;rw [decide_eq_false_iff_not];exact fun h=>k2 h.2.2.1
 rw [if_pos (by simpa using k2)]
 have hk:k=(k.toNat:Int):=by omega
 have e:=Amj (a:=a) (n:=a.Size.toNat) (w:=k.toNat) g (by have:=g.1;omega) (by omega) hl hr
 rw [←hk] at e
 rw [e]
 simp only [Option.bind_some]
 congr 1
 exact decide_eq_decide.2 ⟨fun h=>⟨g,k1,k2,h⟩,fun h=>h.2.2.2⟩
theorem Ait:Hu a k T=some (decide (Aid a k T)):=by
 unfold Hu
 rw [Ajq ha]
 simp only [Option.bind_some]
 by_cases g:Dp a
 case neg=>
  rw [if_neg (by simpa using g)]
  congr 1;symm;rw [decide_eq_false_iff_not];exact fun h=>g h.1
 rw [if_pos (by simpa using g),Ui]
 simp only [Option.bind_some]
 by_cases k1:1≤k∧k≤64
 case neg=>
  rw [if_neg (by simpa using k1)]
  congr 1;symm;rw [decide_eq_false_iff_not];exact fun h=>k1 ⟨h.2.1,h.2.2.1⟩
 rw [if_pos (by simpa using k1)]
 have hk:k=(k.toNat:Int):=by omega
 have e:=A12 (a:=a) (n:=a.Size.toNat) (w:=k.toNat) g (by have:=g.1;omega) (by omega) (by omega) hl hr
 rw [←hk] at e
 rw [e]
 simp only [Option.bind_some]
 congr 1
 exact decide_eq_decide.2 ⟨fun h=>⟨g,k1.1,k1.2,h⟩,fun h=>h.2.2.2⟩
omit ha hl hr in
noncomputable def Wy (a:SAlgebra) (k:Int) (T:List (List Int)):SAlgebra×Bool:=if Aid a k T∧1≤T.length∧T.length≤8 then (Ve a a.Size.toNat k.toNat T,true) else ({ Size:=0,Ops:=[] },false)
theorem A0f:Dh a k T=some (Wy a k T)∧Dk a k T=some (Wy a k T):=by
 constructor
 ·unfold Dh Wy
  rw [Asj ha hl hr]
  simp only [Option.bind_some]
  by_cases h:Aid a k T
  case neg=>
   rw [if_neg (by rw [decide_eq_true_eq];exact h),if_neg fun hh=>h hh.1]
   rfl
  rw [if_pos (by rw [decide_eq_true_eq];exact h)]
  obtain ⟨g,k1,k2,hP⟩:=h
  have hk:k=(k.toNat:Int):=by omega
  have hn:a.Size=(a.Size.toNat:Int):=by have:=g.1;omega
  by_cases h0:(T.length:Int)=0
  ·rw [if_pos h0,if_neg (by rintro ⟨_,h,_⟩;omega)]
   rfl
  ·rw [if_neg h0]
   by_cases h8:T.length≤8
   ·have e1:=Ax0 g hn (w:=k.toNat) (by omega) hP (by omega) h8
    rw [←hk] at e1
    rw [if_neg (show ¬(T.length:Int)>8 by omega),if_pos ⟨⟨g,k1,k2,hP⟩,by omega,h8⟩]
    simp only [Option.bind_some]
    exact e1
   ·rw [if_pos (show (T.length:Int)>8 by omega),if_neg (by rintro ⟨_,_,h⟩;omega)]
    rfl
 ·unfold Dk Wy
  rw [Ait ha hl hr]
  simp only [Option.bind_some]
  by_cases h:Aid a k T
  case neg=>
   rw [if_neg (by rw [decide_eq_true_eq];exact h),if_neg fun hh=>h hh.1]
  rw [if_pos (by rw [decide_eq_true_eq];exact h),Ui]
  simp only [Option.bind_some]
  obtain ⟨g,k1,k2,hP⟩:=h
  have hk:k=(k.toNat:Int):=by omega
  have hn:a.Size=(a.Size.toNat:Int):=by have:=g.1;omega
  by_cases h8:1≤T.length∧T.length≤8
  ·have e2:=Axx g hn (w:=k.toNat) (by omega) hP h8.1 h8.2
   rw [←hk] at e2
   rw [if_pos (by rw [decide_eq_true_eq];omega),e2,if_pos ⟨⟨g,k1,k2,hP⟩,h8⟩]
   rfl
  ·rw [if_neg (by rw [decide_eq_true_eq];omega),if_neg fun hh=>h8 hh.2]
end
end Go.Proofs.Ytmmcfdfdacpjgaa.Ax
namespace Go.Proofs.Ytmmcfdfdacpjgaa.Ax
open Go Classical
theorem Wf {a:SAlgebra} (h:Dp a):Ku a:=by
 refine ⟨by have:=h.2.2.1;omega,fun f hf=> ?_⟩
 obtain ⟨h1,h2,h3,_⟩:=h.2.2.2 f hf
 have:=Wn (n:=a.Size.toNat) (k:=f.Arity.toNat) (by have:=h.2.1;omega) (by omega)
 omega
theorem Ar6 {a:SAlgebra} (ha:Ku a) (op:Int):Kn a op=some (decide (Dp a∧0≤op∧op<a.Ops.length)):=by
 unfold Kn
 rw [L4 ha]
 simp only [Option.bind_some]
 by_cases hg:Dp a
 ·rw [decide_eq_true hg,if_pos rfl]
  by_cases h0:op≥0
  ·rw [if_pos h0]
   congr 1
   rw [decide_eq_decide]
   exact ⟨fun h=>⟨hg,h0,h⟩,fun h=>h.2.2⟩
  ·rw [if_neg h0,decide_eq_false (fun h=>h0 h.2.1)]
 ·rw [decide_eq_false hg,if_neg Bool.false_ne_true,decide_eq_false (fun h=>hg h.1)]
theorem Aks {a:SAlgebra} (ha:Ku a) (hl:a.Ops.length≤1048576) (op:Int):Gs a op=some (decide (Dp a∧0≤op∧op<a.Ops.length)):=by
 unfold Gs
 rw [Ajq ha]
 simp only [Option.bind_some]
 by_cases hg:Dp a
 ·rw [decide_eq_true hg,if_pos rfl,Ag (by unfold InI;omega),Ui]
  simp only [Option.bind_some]
  congr 1
  rw [decide_eq_decide]
  exact ⟨fun h=>⟨hg,h.1,by omega⟩,fun h=>⟨h.2.1,by omega⟩⟩
 ·rw [decide_eq_false hg,if_neg Bool.false_ne_true,decide_eq_false (fun h=>hg h.1)]
theorem Aoc {a:SAlgebra} {n:Nat} (ha:Ku a) (hg:Dp a) (hn:a.Size=n) {i r:Nat} (hi:i<a.Ops.length) (hr:r≤3) (e:(nth a.Ops i).Arity=r) (hT:(nth a.Ops i).Table.length=n^r) {xs:List Int} (hl:xs.length=r) (hx:Bh xs n) :
  J1 a i xs=some (nth (nth a.Ops i).Table (Hr n xs).toNat,true):=by
 have hL:=Av
 have hn8:n≤8:=by have:=hg.2.1;omega
 unfold J1
 rw [Ar6 ha,decide_eq_true (show Dp a∧(0:Int)≤(i:Int)∧(i:Int)<a.Ops.length from ⟨hg,by omega,by omega⟩)]
 simp only [Option.bind_some,if_true]
 rw [Ag (by omega),Int.toNat_natCast,if_neg (by omega),hn,Zq _ _ (by omega)]
 simp only [Option.bind_some]
 rw [decide_eq_true hx,if_pos rfl]
 simp only [Option.bind_some]
 rw [Ag (by omega),Axd hn8 (by omega) hx]
 simp only [Option.bind_some]
 obtain ⟨c,h1,h2,_⟩:=Wr hn8 (xs:=xs) (by omega) hx
 rw [hl] at h2
 rw [Ag (by rw [h1,hT];omega)]
theorem A0w {xs:List Int} (hl:xs.length≤1048576) (x:Int):Ps xs x=some (decide (x∈xs)):=by
 unfold Ps
 have h:=Eo (body:=Gn xs x) (fun i=>(i:Int)) xs.length (fun i=>nth xs i=x) () () (fun i hi hb=>by
  unfold Gn
  try dsimp only
  rw [if_pos (by omega),Ag (by omega),Int.toNat_natCast,if_neg hb,Ag (by unfold InI;omega)]
  rfl) (fun i hi hb=>by
  unfold Gn
  try dsimp only
  rw [if_pos (by omega),Ag (by omega),Int.toNat_natCast,if_pos hb]) (by
  unfold Gn
  try dsimp only
  rw [if_neg (by omega)])
 have h0:=h 0 (Nat.zero_le _)
 rw [show ((0:Nat):Int)=0 from rfl] at h0
 refine (I1 h0 true false).trans ?_
 congr 1
 refine Avg ?_
 rw [Gv]
 exact ⟨fun ⟨i,_,hi,e⟩=>⟨i,hi,e⟩,fun ⟨i,hi,e⟩=>⟨i,Nat.zero_le _,hi,e⟩⟩
theorem Aa3 : ∀ {L M:List Int},L.Nodup→(∀r∈L,r∈M)→L.length≤M.length
 | [],_,_,_=>Nat.zero_le _
 | x::L,M,hd,h=>by
   have hx:x∈M:=h x (by simp)
   obtain ⟨p,q,rfl⟩:=List.append_of_mem hx
   have:=Aa3 (L:=L) (M:=p++q) (List.nodup_cons.1 hd).2 (fun r hr=>by
    have hr2:=h r (by simp [hr])
    have hne:r≠x:=fun e=>(List.nodup_cons.1 hd).1 (e▸hr)
    simp only [List.mem_append,List.mem_cons] at hr2 ⊢
    rcases hr2 with h | h | h
    ·exact .inl h
    ·exact absurd h hne
    ·exact .inr h)
   simp only [List.length_append,List.length_cons] at this ⊢
   omega
theorem Auw (n:Nat):((List.range n).map fun x:Nat=>(x:Int)).Nodup:=by
 rw [List.nodup_iff_pairwise_ne,List.pairwise_map]
 exact List.nodup_range.imp fun h e=>h (by omega)
theorem Azl {n:Nat} {L:List Int} (hd:L.Nodup) (hL : ∀x∈L,0≤x∧x<(n:Int)):L.length=n ↔ ∀x,x<n→(x:Int)∈L:=by
 have up : ∀ {M:List Int},M.Nodup→(∀x∈M,0≤x∧x<(n:Int))→M.length≤n:=fun {M} hd hM=>by
  have:=Aa3 hd (M:=(List.range n).map fun x:Nat=>(x:Int)) fun x hx=>by
   have:=hM x hx
   exact List.mem_map.2 ⟨x.toNat,List.mem_range.2 (by omega),by omega⟩
  simpa using this
 constructor
 ·intro h x hx
  refine Classical.byContradiction fun hn=> ?_
  have:=up (M:=(x:Int)::L) (List.nodup_cons.2 ⟨hn,hd⟩) fun y hy=>by
   rcases List.mem_cons.1 hy with rfl | hy
   ·omega
   ·exact hL y hy
  simp only [List.length_cons] at this
  omega
 ·intro h
  have h1:=up hd hL
  have h2:=Aa3 (Auw n) (M:=L) fun y hy=>by
   obtain ⟨x,hx,rfl⟩:=List.mem_map.1 hy
   exact h x (List.mem_range.1 hx)
  simp at h2
  omega
theorem Aje {n:Nat} {S:Nat→Bool}:(A8 n S).length=n ↔ ∀x,x<n→S x=true:=by
 unfold A8
 rw [List.length_map]
 have:=List.length_filter_eq_length_iff (p:=S) (l:=List.range n)
 rw [List.length_range] at this
 rw [this]
 exact ⟨fun h x hx=>h x (List.mem_range.2 hx),fun h x hx=>h x (List.mem_range.1 hx)⟩
def D0 (T:List (List Int)) (j:Nat):List Int:=T.map fun t=>nth t j
def Yl (n w:Nat) (T:List (List Int)):Prop := ∀j,j<w → ∀x,x<n→(x:Int)∈D0 T j
section
variable {a:SAlgebra} {n w:Nat} {T:List (List Int)} (n8:n≤8) (hw:w≤64) (hl:T.length≤1000) (hr:Kq n w T)
include n8 hw hl hr
omit n8 hw hl in
theorem Apv {j:Nat} (hj:j<w):Bh (D0 T j) n:=fun x hx=>by
 obtain ⟨t,ht,rfl⟩:=List.mem_map.1 hx
 have:=hr.row t ht
 exact this.2 _ (As (by rw [this.1];exact hj))
theorem A0b (hsz:a.Size=n):Am (Ca a w T) 0=some (if Yl n w T then .inr () else .inl ()):=by
 have hL:=Av
 have h:=Eo (body:=Ca a w T) (fun j=>(j:Int)) w (fun j=>¬ ∀x,x<n→(x:Int)∈D0 T j) () () ?_ ?_ (by
  unfold Ca
  try dsimp only
  rw [if_neg (by omega)])
 ·have h0:=h 0 (Nat.zero_le _)
  rw [show ((0:Nat):Int)=0 from rfl] at h0
  rw [h0]
  by_cases hd:Yl n w T
  ·rw [if_pos hd,if_neg]
   rintro ⟨j,_,hj,hb⟩
   exact hb (hd j hj)
  ·rw [if_neg hd,if_pos]
   exact Classical.byContradiction fun hn=>hd fun j hj=>Classical.byContradiction fun hb=>hn ⟨j,Nat.zero_le _,hj,hb⟩
 all_goals
  intro j hj hb
  have key:=B9 (body:=Cr a w T (j:Int)) (fun i=>((i:Int),Ye n fun z=>decide ((z:Int)∈(D0 T j).take i))) T.length (Ye n fun z=>decide ((z:Int)∈D0 T j)) (fun i hi=>by
   obtain ⟨r1,r2⟩:=hr.row _ (As hi)
   have hv:=r2 _ (As (show j<(nth T i).length by omega))
   unfold Cr
   try dsimp only
   rw [if_pos (by omega),Ag (by omega),Int.toNat_natCast,Ag (by omega),Int.toNat_natCast,Ag (by rw [Ajs];exact hv),Ag (by unfold InI;omega),Azn (by omega)]
   have e:(D0 T j).take (i+1)=(D0 T j).take i++[nth (nth T i) j]:=by
    rw [Dx (by simp [D0];exact hi)]
    congr 2
    exact Dr _ hi
   congr 3
   refine Ajg fun z hz=> ?_
   rw [e]
   split
   ·rename_i ez
    symm;rw [decide_eq_true_eq,List.mem_append,List.mem_singleton];right;omega
   ·rename_i ez
    refine decide_eq_decide.2 ?_
    rw [List.mem_append,List.mem_singleton]
    exact ⟨.inl,fun h=>h.resolve_right (by omega)⟩) (by
   unfold Cr
   try dsimp only
   rw [if_neg (by omega),List.take_of_length_le (by simp [D0])])
  have key':Am (Cr a w T (j:Int)) (0,List.replicate n false)=some (Ye n fun z=>decide ((z:Int)∈D0 T j)):=by
   rw [At8]
   have e0:(Ye n fun _=>false)=Ye n fun z=>decide ((z:Int)∈(D0 T j).take 0):=Ajg fun z _=>by simp
   rw [e0];exact key
  have hfull:=Aje (n:=n) (S:=fun z=>decide ((z:Int)∈D0 T j))
  have hlen:=Afj n fun z=>decide ((z:Int)∈D0 T j)
  simp only [decide_eq_true_eq] at hfull
  unfold Ca
  try dsimp only
  rw [if_pos (by omega),hsz,Ag (by omega),Int.toNat_natCast,key']
  simp only [Option.bind_some]
  rw [Azk (by omega)]
  simp only [Option.bind_some]
 ·rw [if_neg (by have:=hfull.2 (Classical.not_not.1 hb);omega),Ag (by unfold InI;omega)]
  rfl
 ·have h9:¬(A8 n fun z=>decide ((z:Int)∈D0 T j)).length=n:=fun h=>hb (hfull.1 h)
  rw [if_pos (by omega)]
theorem Ax2 (hsz:a.Size=n):Am (Cb a w T) 0=some (if Yl n w T then .inr () else .inl ()):=by
 have hL:=Av
 have h:=Eo (body:=Cb a w T) (fun j=>(j:Int)) w (fun j=>¬ ∀x,x<n→(x:Int)∈D0 T j) () () ?_ ?_ (by
  unfold Cb
  try dsimp only
  rw [if_neg (by omega)])
 ·have h0:=h 0 (Nat.zero_le _)
  rw [show ((0:Nat):Int)=0 from rfl] at h0
  rw [h0]
  by_cases hd:Yl n w T
  ·rw [if_pos hd,if_neg]
   rintro ⟨j,_,hj,hb⟩
   exact hb (hd j hj)
  ·rw [if_neg hd,if_pos]
   exact Classical.byContradiction fun hn=>hd fun j hj=>Classical.byContradiction fun hb=>hn ⟨j,Nat.zero_le _,hj,hb⟩
 all_goals
  intro j hj hb
  have key:=B9 (body:=Ct a w T (j:Int)) (fun i=>((i:Int),A8 n fun z=>decide ((z:Int)∈(D0 T j).take i))) T.length (A8 n fun z=>decide ((z:Int)∈D0 T j)) (fun i hi=>by
   obtain ⟨r1,r2⟩:=hr.row _ (As hi)
   have hv:=r2 _ (As (show j<(nth T i).length by omega))
   obtain ⟨v,ev⟩ : ∃v:Nat,nth (nth T i) j=(v:Int):=⟨(nth (nth T i) j).toNat,by omega⟩
   unfold Ct
   try dsimp only
   rw [if_pos (by omega),Ag (by omega),Int.toNat_natCast,Ag (by omega),Int.toNat_natCast,ev,A2b (by omega) _ (by omega)]
   simp only [Option.bind_some]
   rw [Ag (by unfold InI;omega)]
   have e:(D0 T j).take (i+1)=(D0 T j).take i++[(v:Int)]:=by
    rw [Dx (by simp [D0];exact hi),←ev]
    congr 2
    exact Dr _ hi
   congr 3
   refine Ag8 fun z hz=> ?_
   rw [e]
   refine decide_eq_decide.2 ?_
   rw [decide_eq_true_eq,List.mem_append,List.mem_singleton]
   exact ⟨fun h=>h.imp id fun h=>by omega,fun h=>h.imp id fun h=>by omega⟩) (by
   unfold Ct
   try dsimp only
   rw [if_neg (by omega),List.take_of_length_le (by simp [D0])])
  have key':Am (Ct a w T (j:Int)) (0,Ar Int)=some (A8 n fun z=>decide ((z:Int)∈D0 T j)):=by
   have e0:Ar Int=A8 n fun z=>decide ((z:Int)∈(D0 T j).take 0):=(An2.2 fun i _=>by simp).symm
   rw [e0];exact key
  have hfull:=Aje (n:=n) (S:=fun z=>decide ((z:Int)∈D0 T j))
  simp only [decide_eq_true_eq] at hfull
  unfold Cb
  try dsimp only
  rw [if_pos (by omega),key']
  simp only [Option.bind_some]
  rw [hsz]
 ·rw [if_neg (by have:=hfull.2 (Classical.not_not.1 hb);omega),Ag (by unfold InI;omega)]
  rfl
 ·have h9:¬(A8 n fun z=>decide ((z:Int)∈D0 T j)).length=n:=fun h=>hb (hfull.1 h)
  rw [if_pos (by omega)]
end
noncomputable def Ale (a:SAlgebra) (k:Int) (T:List (List Int)):Bool×Bool:=if Aid a k T then (decide (Yl a.Size.toNat k.toNat T),true) else (false,false)
section
variable {a:SAlgebra} {k:Int} {T:List (List Int)} (ha:Ku a) (hl:T.length≤1048576) (hr : ∀t∈T,t.length≤1048576)
include ha hl hr
theorem Ayz:Gr a k T=some (Ale a k T)∧Gl a k T=some (Ale a k T):=by
 have facts:Aid a k T→Am (Ca a k T) 0=some (if Yl a.Size.toNat k.toNat T then .inr () else .inl ())∧Am (Cb a k T) 0=some (if Yl a.Size.toNat k.toNat T then .inr () else .inl ()):=by
  rintro ⟨g,k1,k2,hP⟩
  have hk:k=(k.toNat:Int):=by omega
  have hn:a.Size=(a.Size.toNat:Int):=by have:=g.1;omega
  have hm:=Adk a
  have e1:=A0b (a:=a) (n:=a.Size.toNat) (w:=k.toNat) (T:=T) (by have:=g.2.1;omega) (by omega) (by have:=hP.1;omega) hP.2.1 hn
  have e2:=Ax2 (a:=a) (n:=a.Size.toNat) (w:=k.toNat) (T:=T) (by have:=g.2.1;omega) (by omega) (by have:=hP.1;omega) hP.2.1 hn
  rw [←hk] at e1 e2
  exact ⟨e1,e2⟩
 constructor
 ·unfold Gr Ale
  rw [Asj ha hl hr]
  simp only [Option.bind_some]
  by_cases h:Aid a k T
  ·rw [if_pos (by rw [decide_eq_true_eq];exact h),if_pos h,(facts h).1]
   simp only [Option.bind_some]
   by_cases hd:Yl a.Size.toNat k.toNat T
   ·rw [if_pos hd,decide_eq_true hd]
   ·rw [if_neg hd,decide_eq_false hd]
  ·rw [if_neg (by rw [decide_eq_true_eq];exact h),if_neg h]
 ·unfold Gl Ale
  rw [Ait ha hl hr]
  simp only [Option.bind_some]
  by_cases h:Aid a k T
  ·rw [if_pos (by rw [decide_eq_true_eq];exact h),if_pos h,(facts h).2]
   simp only [Option.bind_some]
   by_cases hd:Yl a.Size.toNat k.toNat T
   ·rw [if_pos hd,decide_eq_true hd]
   ·rw [if_neg hd,decide_eq_false hd]
  ·rw [if_neg (by rw [decide_eq_true_eq];exact h),if_neg h]
end
section
variable {a:SAlgebra} {n w:Nat} {T:List (List Int)} (ga:Dp a) (hsz:a.Size=n) (hP:Awr a n w T) (h1:1≤T.length) (h8:T.length≤8)
include ga hsz hP h1 h8
theorem A2i {j:Nat} (hj:j<w):Ayx (Ve a n w T) a (D0 T j):=by
 obtain ⟨n8,n1,ho4⟩:=Gp ga hsz
 have hin:=Apv hP.2.1 hj
 have hlen:(D0 T j).length=T.length:=by simp [D0]
 refine ⟨⟨Am5 ga hsz hP h1 h8,ga,Awo⟩,⟨by rw [hlen];rfl,by rw [hsz];exact hin⟩,?_⟩
 rintro ⟨i,hi,k,hk,hf⟩
 have hi':i<a.Ops.length:=by simpa [Ve] using hi
 obtain ⟨q1,q2,q3,_⟩:=Km ga hsz hi'
 have e1:nth (Ve a n w T).Ops i=Ahn a n w T i:=by
  show nth ((List.range a.Ops.length).map (Ahn a n w T)) i=_
  rw [Dr _ (by simpa using hi'),Ma hi']
 have hN:(Ve a n w T).Size.toNat=T.length:=by show ((T.length:Int)).toNat=_;omega
 have hn:a.Size.toNat=n:=by omega
 rw [e1] at hk
 have hk':k<T.length^arQ a i:=by simpa [Ahn] using hk
 apply hf
 rw [e1,hN,hn]
 have e2:nth (Ahn a n w T i).Table k=((Ahx T (Ads a n w T i k):Nat):Int):=by
  show nth ((List.range (T.length^arQ a i)).map _) k=_
  rw [Dr _ (by simpa using hk'),Ma hk']
 obtain ⟨c1,c2⟩:=Aac (Aes hP h1 hi' (k:=k))
 rw [e2,Int.toNat_natCast,show (Ahn a n w T i).Arity.toNat=arQ a i from rfl]
 have e3:nth (D0 T j) (Ahx T (Ads a n w T i k))=nth (Ads a n w T i k) j:=by
  show nth (T.map _) _=_
  rw [Dr _ c1,c2]
 rw [e3,←Aq6]
 have e4:nth (Ads a n w T i k) j=nth (nth a.Ops i).Table (hT n (arQ a i) fun q=>nth (nth (D2 T (Ia T.length (arQ a i) k)) q) j).toNat:=by
  show nth ((List.range w).map _) j=_
  rw [Dr _ (by simpa using hj),Ma hj]
 rw [e4]
 congr 2
 unfold hT
 congr 1
 have hal:=Ad6 (n:=T.length) (by omega) (arQ a i) k
 refine Pf (by simp [M1]) fun q hq=> ?_
 rw [List.length_map,List.length_range] at hq
 have hq2:q<(Ia T.length (arQ a i) k).length:=by rw [M1];exact hq
 have hv:=hal _ (As hq2)
 rw [Dr _ (by simpa using hq),Ma hq,Dr _ hq2]
 show nth (nth ((Ia T.length (arQ a i) k).map fun i=>nth T i.toNat) q) j=nth (T.map _) _
 rw [Dr _ hq2,Dr _ (by omega)]
theorem Azf {j:Nat} (hj:j<w):Mh (Ve a n w T) a (D0 T j)=some (true,true):=by
 have h:=A2i ga hsz hP h1 h8 hj
 have hlen:(D0 T j).length=T.length:=by simp [D0]
 have hL:=Av
 unfold Mh
 rw [A1a (Wf h.1.1) (Wf ga),decide_eq_true (show Dp (Ve a n w T)∧Dp a∧Kr (Ve a n w T)=Kr a from h.1)]
 simp only [Option.bind_some,if_true]
 rw [A02 h.1 (by omega),decide_eq_true h]
 rfl
end
def atP (a:SAlgebra) (op:Int) (T:List (List Int)):Prop:=(Dp a∧0≤op∧op<a.Ops.length)∧(nth a.Ops op.toNat).Arity≠0∧(T.length:Int)=(nth a.Ops op.toNat).Arity∧1≤(nth T 0).length∧(nth T 0).length≤64∧Kq a.Size ((nth T 0).length:Int) T
noncomputable def atR (a:SAlgebra) (op:Int) (T:List (List Int)):List Int×Bool:=if atP a op T then (apV T a.Size.toNat (nth T 0).length (nth a.Ops op.toNat) (arQ a op.toNat),true) else ([],false)
section
variable {a:SAlgebra} {op:Int} {T:List (List Int)} (ha:Ku a) (hol:a.Ops.length≤1048576) (hl:T.length≤1048576) (hr : ∀t∈T,t.length≤1048576)
include ha hol hl hr
theorem Apc:Kd a op T=some (atR a op T)∧Kf a op T=some (atR a op T):=by
 constructor
 ·unfold Kd atR
  rw [Ar6 ha]
  simp only [Option.bind_some]
  by_cases g:Dp a∧0≤op∧op<a.Ops.length
  case neg=>
   rw [if_neg (by rw [decide_eq_true_eq];exact g),if_neg fun h=>g h.1]
   rfl
  rw [if_pos (by rw [decide_eq_true_eq];exact g),Ag g.2]
  by_cases h0:(nth a.Ops op.toNat).Arity=0
  ·rw [if_pos h0,if_neg fun h=>h.2.1 h0]
   rfl
  rw [if_neg h0,Ag g.2]
  by_cases hT:(T.length:Int)=(nth a.Ops op.toNat).Arity
  case neg=>
   rw [if_pos hT,if_neg fun h=>hT h.2.2.1]
   rfl
  rw [if_neg (by omega)]
  simp only [Option.bind_some]
  have hn:a.Size=(a.Size.toNat:Int):=by have:=g.1.1;omega
  obtain ⟨q1,q2,q3,_⟩:=Km g.1 hn (i:=op.toNat) (by omega)
  have hpos:0<T.length:=by omega
  rw [Ag (by omega),show (0:Int).toNat=0 from rfl]
  unfold G0
  by_cases k1:((nth T 0).length:Int)≥1
  case neg=>
   rw [if_neg k1]
   simp only [Option.bind_some,Bool.false_eq_true,if_false]
   rw [if_neg fun h=>k1 (by have:=h.2.2.2.1;omega)]
  rw [if_pos k1]
  simp only [Option.bind_some]
  by_cases k2:(nth T 0).length≤64
  case neg=>
   rw [if_neg (by rw [decide_eq_true_eq];omega),if_neg fun h=>k2 h.2.2.2.2.1]
   rfl
  rw [if_pos (by rw [decide_eq_true_eq];omega),Agj hl hr]
  simp only [Option.bind_some]
  by_cases hro:Kq a.Size ((nth T 0).length:Int) T
  case neg=>
   rw [if_neg (by rw [decide_eq_true_eq];exact hro),if_neg fun h=>hro h.2.2.2.2.2]
   rfl
  rw [if_pos (by rw [decide_eq_true_eq];exact hro),if_pos ⟨g,h0,hT,by omega,k2,hro⟩]
  simp only [Option.bind_some]
  rw [Ag g.2,R8 hn (by have:=g.1.2.1;omega) q1 (by omega) (fun t ht=>(hn▸hro:Kq (a.Size.toNat:Int) _ T).row t ht) (by omega)]
  rfl
 ·unfold Kf atR
  rw [Aks ha hol]
  simp only [Option.bind_some]
  by_cases g:Dp a∧0≤op∧op<a.Ops.length
  case neg=>
   rw [if_neg (by rw [decide_eq_true_eq];exact g),if_neg fun h=>g h.1]
   rfl
  rw [if_pos (by rw [decide_eq_true_eq];exact g),Ag g.2]
  by_cases h0:(nth a.Ops op.toNat).Arity=0
  ·rw [if_pos h0,if_neg fun h=>h.2.1 h0]
   rfl
  rw [if_neg h0,Ag g.2]
  by_cases hT:(T.length:Int)=(nth a.Ops op.toNat).Arity
  case neg=>
   rw [if_pos hT,if_neg fun h=>hT h.2.2.1]
   rfl
  rw [if_neg (by omega)]
  have hn:a.Size=(a.Size.toNat:Int):=by have:=g.1.1;omega
  obtain ⟨q1,q2,q3,_⟩:=Km g.1 hn (i:=op.toNat) (by omega)
  have hpos:0<T.length:=by omega
  have e8:=Abt (n:=a.Size.toNat) (by have:=g.1.2.1;omega) hl hr ((nth T 0).length:Int)
  rw [←hn] at e8
  rw [Ag (by omega),show (0:Int).toNat=0 from rfl,e8]
  simp only [Option.bind_some]
  by_cases hro:Kq a.Size ((nth T 0).length:Int) T∧1≤((nth T 0).length:Int)∧((nth T 0).length:Int)≤64
  case neg=>
   rw [if_neg (by rw [decide_eq_true_eq];exact hro),if_neg fun h=>hro ⟨h.2.2.2.2.2,by have:=h.2.2.2.1;omega,by have:=h.2.2.2.2.1;omega⟩]
   rfl
  rw [if_pos (by rw [decide_eq_true_eq];exact hro),if_pos ⟨g,h0,hT,by omega,by omega,hro.1⟩]
  simp only [Option.bind_some]
  have e9:=(R2 hn (by have:=g.1.2.1;omega) (show op.toNat<a.Ops.length by omega) hol q1 (T:=T) (w:=(nth T 0).length) (by omega) (fun t ht=>(hn▸hro.1:Kq (a.Size.toNat:Int) _ T).row t ht) (by omega)).1
  rw [show ((op.toNat:Nat):Int)=op by omega] at e9
  rw [Ag (by omega),e9]
  rfl
end
end Go.Proofs.Ytmmcfdfdacpjgaa.Ax
namespace Go.Proofs.Ytmmcfdfdacpjgaa.Ax
open Go Classical
end Go.Proofs.Ytmmcfdfdacpjgaa.Ax
namespace Go.Proofs.Ytmmcfdfdacpjgaa.Ax
open Go Classical
end Go.Proofs.Ytmmcfdfdacpjgaa.Ax
namespace Go.Proofs.Ytmmcfdfdacpjgaa.Ax
open Go
def Cur (k:Nat) (c:Sl1Cur):Prop:=(∀x∈c.code,0≤x∧x≤255)∧c.code.length≤65536∧0≤c.at_∧c.at_≤k
theorem Cur.mono {k l:Nat} {c:Sl1Cur} (h:Cur k c) (hl:k≤l):Cur l c:=⟨h.1,h.2.1,h.2.2.1,by have:=h.2.2.2;omega⟩
theorem Ax7 {n:Int} (h0:0≤n) (h1:n≤255):IntKind.u64.wrap n=n:=by
 simp [IntKind.wrap,IntKind.bits,IntKind.signed]
 omega
theorem Anv {c:Sl1Cur} {k:Nat} (h:Cur k c) (hk:k≤1000000000) : ∃r d,E8 c=some (r,d)∧Cur (k+1) d∧0≤r∧r≤255:=by
 obtain ⟨h1,h2,h3,h4⟩:=h
 unfold E8
 have fin : ∀q:Int,0≤q→q≤255 → ∃r d,(ask (InI (c.at_+1)) <|
   if c.at_+1≤(c.code.length:Int) then
    some (q,({ code:=c.code,at_:=c.at_+1,seed:=IntKind.u64.wrap (IntKind.u64.wrap (IntKind.u64.wrap (c.seed*6364136223846793005)+IntKind.u64.wrap q)+550289) }:Sl1Cur))
   else some (IntKind.i64.wrap (IntKind.u64.wrap (((BitVec.ofInt IntKind.u64.bits ((IntKind.u64.wrap (IntKind.u64.wrap (IntKind.u64.wrap (c.seed*6364136223846793005)+IntKind.u64.wrap q)+550289)).fdiv (2^min (Int.toNat 40) IntKind.u64.bits)) &&& BitVec.ofInt IntKind.u64.bits 255).toNat:Nat):Int)),
    ({ code:=c.code,at_:=c.at_+1,seed:=IntKind.u64.wrap (IntKind.u64.wrap (IntKind.u64.wrap (c.seed*6364136223846793005)+IntKind.u64.wrap q)+550289) }:Sl1Cur)))=some (r,d)∧Cur (k+1) d∧0≤r∧r≤255:=by
  intro q hq0 hq1
  rw [Ag (by unfold InI;omega)]
  split
  ·exact ⟨_,_,rfl,⟨h1,h2,by show 0≤c.at_+1;omega,by show c.at_+1≤((k+1:Nat):Int);omega⟩,hq0,hq1⟩
  ·refine ⟨_,_,rfl,⟨h1,h2,by show 0≤c.at_+1;omega,by show c.at_+1≤((k+1:Nat):Int);omega⟩,?_⟩
   generalize BitVec.ofInt IntKind.u64.bits ((IntKind.u64.wrap (IntKind.u64.wrap (IntKind.u64.wrap (c.seed*6364136223846793005)+IntKind.u64.wrap q)+550289)).fdiv (2^min (Int.toNat 40) IntKind.u64.bits))=b
   have hb:(b &&& BitVec.ofInt IntKind.u64.bits 255).toNat≤255:=by
    rw [BitVec.toNat_and]
    have:(BitVec.ofInt IntKind.u64.bits 255).toNat=255:=by decide
    rw [this]
    exact Nat.and_le_right
   generalize (b &&& BitVec.ofInt IntKind.u64.bits 255).toNat=z at hb
   rw [Ax7 (by omega) (by omega),Z9 (by omega) (by omega)]
   omega
 by_cases hc:c.at_<(c.code.length:Int)
 ·rw [if_pos hc,Ag ⟨h3,hc⟩]
  have hm:=h1 _ (As (xs:=c.code) (i:=c.at_.toNat) (by omega))
  rw [Z9 (by omega) (by omega)]
  simp only [Option.bind_some]
  exact fin _ hm.1 hm.2
 ·rw [if_neg hc]
  simp only [Option.bind_some]
  exact fin 0 (by omega) (by omega)
theorem Fd {c:Sl1Cur} {k:Nat} (h:Cur k c) (hk:k≤900000000) (n:Int) : ∃r d,A7 c n=some (r,d)∧Cur (k+2) d∧0≤r∧(r<n∨(n≤1∧r=0)):=by
 unfold A7
 by_cases h1:n≤1
 ·rw [if_pos h1];exact ⟨0,c,rfl,h.mono (by omega),by omega,.inr ⟨h1,rfl⟩⟩
 ·rw [if_neg h1]
  obtain ⟨r,d,e,hd,a1,a2⟩:=Anv h (by omega)
  simp only [e,Option.bind_some]
  by_cases h2:n>200
  ·rw [if_pos h2,Ag (by unfold InI;omega)]
   obtain ⟨r2,d2,e2,hd2,b1,b2⟩:=Anv hd (by omega)
   simp only [e2,Option.bind_some]
   rw [Ag (by unfold InI;omega),Ag (by omega)]
   refine ⟨_,_,rfl,hd2,Int.tmod_nonneg _ (by omega),.inl ?_⟩
   exact Int.tmod_lt_of_pos _ (by omega)
  ·rw [if_neg h2,Ag (by omega)]
   refine ⟨_,_,rfl,hd.mono (by omega),Int.tmod_nonneg _ (by omega),.inl ?_⟩
   exact Int.tmod_lt_of_pos _ (by omega)
theorem R7 {c:Sl1Cur} {k:Nat} (h:Cur k c) (hk:k≤900000000) (n:Int) : ∃b d,Bz c n=some (b,d)∧Cur (k+2) d:=by
 unfold Bz
 obtain ⟨r,d,e,hd,_,_⟩:=Fd h hk n
 simp only [e,Option.bind_some]
 exact ⟨_,_,rfl,hd⟩
theorem Fj {c:Sl1Cur} {k:Nat} (h:Cur k c) (hk:k≤900000000) (l:List Int) (h0:0<l.length) : ∃r d,Bc c l=some (r,d)∧Cur (k+2) d∧r∈l:=by
 unfold Bc
 obtain ⟨r,d,e,hd,a1,a2⟩:=Fd h hk (l.length:Int)
 simp only [e,Option.bind_some]
 rw [Ag (by omega)]
 exact ⟨_,_,rfl,hd,As (by omega)⟩
open Classical
end Go.Proofs.Ytmmcfdfdacpjgaa.Ax
namespace Go.Proofs.Ytmmcfdfdacpjgaa.Ax
open Go Classical
def Ayf (n r k:Nat) (S:Nat→Bool):Prop := ∀x∈Ia n r k,S x.toNat=true
def A2y (a:SAlgebra) (i k:Nat) (S:Nat→Bool):Prop:=Ayf a.Size.toNat (nth a.Ops i).Arity.toNat k S
def A2m (H:List Bool):Nat:=H.count true
section
variable {a:SAlgebra}
structure ReadyA (a:SAlgebra) (n:Nat):Prop where
 good:Dp a
 sz:a.Size=(n:Int)
 pos:0<n
 le:n≤8
theorem ReadyA.nat {n:Nat} (h:ReadyA a n):a.Size.toNat=n:=by have:=h.sz;omega
theorem ReadyA.op {n:Nat} (h:ReadyA a n) {i:Nat} (hi:i<a.Ops.length) : ∃r:Nat,(nth a.Ops i).Arity=(r:Int)∧r≤3∧(nth a.Ops i).Table.length=n^r∧Bh (nth a.Ops i).Table n∧(nth a.Ops i).Table.length≤512∧(∀k S,A2y a i k S↔Ayf n r k S):=by
 have:=h.good.2.2.2 _ (As hi)
 rw [h.nat] at this
 obtain ⟨h1,h2,h3,h4⟩:=this
 refine ⟨(nth a.Ops i).Arity.toNat,by omega,by omega,h3,h4,?_,fun k S=>by unfold A2y;rw [h.nat]⟩
 rw [h3];exact Wn h.le (by omega)
structure Pass (n:Nat) (G:Nat→Bool) (c0:Bool) (H0:List Bool) (c:Bool) (H:List Bool) (done:(Nat→Bool)→Prop):Prop where
 len:H.length=n
 more : ∀z,nth H0 z=true→nth H z=true
 low : ∀z,nth H z=true→G z=true
 up:c=true→c0=true∨A2m H0<A2m H
 no:c=false→c0=false∧H=H0∧done (nth H)
 mono:A2m H0≤A2m H
end
end Go.Proofs.Ytmmcfdfdacpjgaa.Ax
namespace Go.Proofs.Ytmmcfdfdacpjgaa.Ax
open Go Classical
theorem Avu {α β:Type} {o:Option α} {k:α→Option β} {Q:α→Prop} {R:β→Prop} (h : ∃a,o=some a∧Q a) (h2 : ∀a,Q a → ∃b,k a=some b∧R b) : ∃b,o.bind k=some b∧R b:=by
 obtain ⟨a,e,hq⟩:=h
 rw [e];exact h2 a hq
theorem A34 {β:Type} {c:Prop} [Decidable c] {x y:Option β} {R:β→Prop} (h1:c → ∃b,x=some b∧R b) (h2:¬c → ∃b,y=some b∧R b) : ∃b,(if c then x else y)=some b∧R b:=by
 split
 ·exact h1 ‹_›
 ·exact h2 ‹_›
def Xi (a:SAlgebra):Prop:=a.Ops.length≤10 ∧ ∀f∈a.Ops,f.Table.length≤101
theorem Ty {a:SAlgebra} (h:Xi a):Ku a:=⟨by have:=h.1;omega,fun f hf=>by have:=h.2 f hf;omega⟩
theorem Ar1 (s:ByteArray) (hs:s.size≤100) : ∃f,Bd s=some f∧f.Table.length≤100:=by
 have hL:=Av
 unfold Bd
 obtain ⟨f,e,hf⟩:=Cc (body:=Gf s) (fun t => ∃j:Nat,t.1=(j:Int)∧j≤s.size∧t.2.Table.length≤j) (fun t=>s.size-t.1.toNat) (fun f=>f.Table.length≤100) (fun t ht=>by
  obtain ⟨x4,x3⟩:=t
  obtain ⟨j,g1,g2,g3⟩:=ht
  simp only at g1 g2 g3
  subst g1
  unfold Gf
  dsimp only
  by_cases hj:(j:Int)<(s.size:Int)
  ·left
   rw [if_pos hj,Ag (by omega),Ag (by simp;omega),Ag (by unfold InI;omega)]
   exact ⟨_,rfl,⟨j+1,rfl,by omega,by simp;omega⟩,by simp only;omega⟩
  ·right
   rw [if_neg hj]
   exact ⟨_,rfl,by omega⟩) (s:=((0:Int),({ Arity:=2,Table:=Ar Int }:SOp))) ⟨0,rfl,Nat.zero_le _,by simp [Ar]⟩
 rw [e]
 exact ⟨_,rfl,hf⟩
theorem Asg {n:Int} (hn:n=2∨n=3) : ∃f,G3 n=some f∧f.Table.length≤100:=by
 have hL:=Av
 unfold G3
 obtain ⟨f,e,hf⟩:=Cc (body:=Gj n) (fun t => ∃j:Nat,t.1=(j:Int)∧j≤27∧t.2.Table.length≤j) (fun t=>27-t.1.toNat) (fun f=>f.Table.length≤100) (fun t ht=>by
  obtain ⟨x4,x3⟩:=t
  obtain ⟨j,g1,g2,g3⟩:=ht
  simp only at g1 g2 g3
  subst g1
  unfold Gj
  dsimp only
  have d1 : ∀m:Int,(j:Int).tdiv m=(j:Int)/m:=fun m=>Int.tdiv_eq_ediv_of_nonneg (by omega)
  have d2 : ∀m:Int,(j:Int).tmod m=(j:Int)%m:=fun m=>Int.tmod_eq_emod_of_nonneg (by omega)
  rw [d1,d1,d2]
  rcases hn with rfl | rfl
  ·have d3:((j:Int)/2).tmod 2=((j:Int)/2)%2:=Int.tmod_eq_emod_of_nonneg (by omega)
   rw [d3]
   by_cases hj:(j:Int)<2*2*2
   ·left
    rw [Ag (by unfold InI;omega),Ag (by unfold InI;omega),if_pos hj]
    rw [Ag (by unfold InI;omega),Ag (by unfold InI;omega),Ag (by unfold InI;omega),Ag (by unfold InI;omega),Ag (by omega),Ag (by unfold InI;omega),Ag (by omega),Ag (by unfold InI;omega),Ag (by omega),Ag (by simp;omega),Ag (by unfold InI;omega)]
    exact ⟨_,rfl,⟨j+1,rfl,by omega,by simp;omega⟩,by simp only;omega⟩
   ·right
    rw [Ag (by unfold InI;omega),Ag (by unfold InI;omega),if_neg hj]
    exact ⟨_,rfl,by omega⟩
  ·have d3:((j:Int)/3).tmod 3=((j:Int)/3)%3:=Int.tmod_eq_emod_of_nonneg (by omega)
   rw [d3]
   by_cases hj:(j:Int)<3*3*3
   ·left
    rw [Ag (by unfold InI;omega),Ag (by unfold InI;omega),if_pos hj]
    rw [Ag (by unfold InI;omega),Ag (by unfold InI;omega),Ag (by unfold InI;omega),Ag (by unfold InI;omega),Ag (by omega),Ag (by unfold InI;omega),Ag (by omega),Ag (by unfold InI;omega),Ag (by omega),Ag (by simp;omega),Ag (by unfold InI;omega)]
    exact ⟨_,rfl,⟨j+1,rfl,by omega,by simp;omega⟩,by simp only;omega⟩
   ·right
    rw [Ag (by unfold InI;omega),Ag (by unfold InI;omega),if_neg hj]
    exact ⟨_,rfl,by omega⟩) (s:=((0:Int),({ Arity:=3,Table:=Ar Int }:SOp))) ⟨0,rfl,Nat.zero_le _,by simp [Ar]⟩
 rw [e]
 exact ⟨_,rfl,hf⟩
theorem Aop (k:Int) : ∃a,J6 k=some a∧Xi a:=by
 have fin0 : ∀ {z:Int},Xi { Size:=z,Ops:=Ar SOp }:=⟨by simp [Ar],fun f hf=>by simp [Ar] at hf⟩
 have fin1 : ∀ {z:Int} {f:SOp},f.Table.length≤100→Xi { Size:=z,Ops:=[f] }:=fun h=>⟨by simp,fun f hf=>by simp at hf;subst hf;omega⟩
 have fin2 : ∀ {z:Int} {f g:SOp},f.Table.length≤100→g.Table.length≤100→Xi { Size:=z,Ops:=[f,g] }:=fun h1 h2=>⟨by simp,fun f hf=>by
  simp only [List.mem_cons,List.not_mem_nil,or_false] at hf
  rcases hf with rfl | rfl<;>omega⟩
 have fin3 : ∀ {z:Int} {f g e:SOp},f.Table.length≤100→g.Table.length≤100→e.Table.length≤100→Xi { Size:=z,Ops:=[f,g,e] }:=fun h1 h2 h3=>⟨by simp,fun f hf=>by
  simp only [List.mem_cons,List.not_mem_nil,or_false] at hf
  rcases hf with rfl | rfl | rfl<;>omega⟩
 unfold J6
 repeat' (first | refine A34 (fun _=> ?_) (fun _=> ?_) | refine Avu (Ar1 _ (by decide)) fun f hf=> ?_ | refine Avu (Asg (by simp)) fun f hf=> ?_)
 all_goals
  first
   | exact ⟨_,rfl,fin0⟩
   | exact ⟨_,rfl,fin1 (by first | assumption | decide)⟩
   | exact ⟨_,rfl,fin2 (by first | assumption | decide) (by first | assumption | decide)⟩
   | exact ⟨_,rfl,fin3 (by first | assumption | decide) (by first | assumption | decide) (by first | assumption | decide)⟩
theorem Acy {c:Sl1Cur} {k:Nat} (h:Cur k c) (hk:k≤600000000) : ∃a d,Dy c=some (a,d)∧Cur (k+1000) d∧Xi a:=by
 have hL:=Av
 unfold Dy
 obtain ⟨b,d,e,hd⟩:=R7 h (by omega) 4
 rw [e]
 simp only [Option.bind_some]
 by_cases hb:b=true
 ·rw [if_pos hb]
  obtain ⟨n,d2,e2,hd2,hn⟩:=Fj hd (by omega) [2,2,3,3,4] (by simp)
  rw [e2]
  simp only [Option.bind_some]
  obtain ⟨m,d3,e3,hd3,hm⟩:=Fj hd2 (by omega) [1,1,2] (by simp)
  rw [e3]
  simp only [Option.bind_some]
  obtain ⟨N,rfl,hN⟩ : ∃N:Nat,n=(N:Int)∧2≤N∧N≤4:=⟨n.toNat,by simp at hn;omega,by simp at hn;omega⟩
  obtain ⟨M,rfl,hM⟩ : ∃M:Nat,m=(M:Int)∧1≤M∧M≤2:=⟨m.toNat,by simp at hm;omega,by simp at hm;omega⟩
  obtain ⟨⟨a,d4⟩,e4,⟨ha1,ha2,ha3⟩,hd4⟩:=Cc (body:=Dt (N:Int)) (fun s => ∃j:Nat,s.1=(j:Int)∧j≤M∧s.2.1.Size=(N:Int)∧s.2.1.Ops.length=M-j∧(∀f∈s.2.1.Ops,1≤f.Table.length∧f.Table.length≤64)∧Cur (k+6+200*(M-j)) s.2.2) (fun s=>s.1.toNat)
   (fun t=>(t.1.Size=(N:Int)∧t.1.Ops.length=M ∧ ∀f∈t.1.Ops,1≤f.Table.length∧f.Table.length≤64)∧Cur (k+500) t.2) (fun s hs=>by
   obtain ⟨x6,x5,x1⟩:=s
   obtain ⟨j,g1,g2,g3,g4,g5,g6⟩:=hs
   simp only at g1 g2 g3 g4 g5 g6
   subst g1
   unfold Dt
   dsimp only
   by_cases hj:(j:Int)>0
   ·left
    rw [if_pos hj]
    obtain ⟨r,d5,e5,hd5,hr⟩:=Fj g6 (by omega) [0,1,2,2,3] (by simp)
    rw [e5]
    simp only [Option.bind_some]
    obtain ⟨R,rfl,hR⟩ : ∃R:Nat,r=(R:Int)∧R≤3:=⟨r.toNat,by simp at hr;omega,by simp at hr;omega⟩
    have hop : ∃f:SOp,((if (N:Int)=4 then if (R:Int)=3 then some ({ Arity:=2,Table:=Ar Int }:SOp) else some { Arity:=(R:Int),Table:=Ar Int } else some { Arity:=(R:Int),Table:=Ar Int }:Option SOp))=some f∧f.Table=[] ∧ ∃Q:Nat,f.Arity=(Q:Int)∧1≤N^Q∧N^Q≤64∧Q≤3:=by
     by_cases h4:(N:Int)=4
     ·rw [if_pos h4]
      have h4:N=4:=by omega
      subst h4
      by_cases h3:(R:Int)=3
      ·rw [if_pos h3];exact ⟨_,rfl,rfl,2,rfl,by decide⟩
      ·rw [if_neg h3]
       refine ⟨_,rfl,rfl,R,rfl,?_⟩
       have:R=0∨R=1∨R=2:=by omega
       rcases this with rfl | rfl | rfl<;>decide
     ·rw [if_neg h4]
      refine ⟨_,rfl,rfl,R,rfl,?_⟩
      have h5:N=2∨N=3:=by omega
      have:R=0∨R=1∨R=2∨R=3:=by omega
      rcases h5 with rfl | rfl<;>rcases this with rfl | rfl | rfl | rfl<;>decide
    obtain ⟨f,ef,ht,Q,hQ,q1,q2,q3⟩:=hop
    rw [ef]
    simp only [Option.bind_some]
    rw [hQ,Aps (by omega) q3]
    simp only [Option.bind_some]
    obtain ⟨⟨f2,d6⟩,e6,hf2,hd6⟩:=Cc (body:=Ds (N:Int) (j:Int) x5) (fun s => ∃i:Nat,s.1=(i:Int)∧i≤N^Q∧s.2.1.Table.length=N^Q-i∧Cur (k+6+200*(M-j)+2+2*(N^Q-i)) s.2.2) (fun s=>s.1.toNat) (fun t=>t.1.Table.length=N^Q∧Cur (k+6+200*(M-j)+2+2*N^Q) t.2) (fun s hs=>by
     obtain ⟨x8,x7,x9⟩:=s
     obtain ⟨i,k1,k2,k3,k4⟩:=hs
     simp only at k1 k2 k3 k4
     subst k1
     unfold Ds
     dsimp only
     by_cases hi:(i:Int)>0
     ·left
      rw [if_pos hi]
      obtain ⟨v,d7,e7,hd7,_⟩:=Fd k4 (by omega) (N:Int)
      rw [e7]
      simp only [Option.bind_some]
      rw [Ag (by simp;omega),Ag (by unfold InI;omega)]
      exact ⟨_,rfl,⟨i-1,by simp only;omega,by omega,by simp;omega,hd7.mono (by omega)⟩,by simp only;omega⟩
     ·right
      rw [if_neg hi]
      exact ⟨_,rfl,by simp only;omega,k4.mono (by omega)⟩) (s:=(((N^Q:Nat):Int),f,d5)) ⟨N^Q,rfl,Nat.le_refl _,by simp [ht],hd5.mono (by omega)⟩
    rw [e6]
    simp only [Option.bind_some]
    rw [Ag (by simp;omega),Ag (by unfold InI;omega)]
    simp only at hf2 hd6
    refine ⟨_,rfl,⟨j-1,by simp only;omega,by omega,g3,by simp;omega,fun f hf=> ?_,hd6.mono (by omega)⟩,by simp only;omega⟩
    rcases List.mem_append.1 hf with h' | h'
    ·exact g5 f h'
    ·rw [List.mem_singleton.1 h'];omega
   ·right
    rw [if_neg hj]
    exact ⟨_,rfl,⟨g3,by simp only;omega,g5⟩,g6.mono (by omega)⟩) (s:=((M:Int),({ Size:=(N:Int),Ops:=Ar SOp }:SAlgebra),d3)) ⟨M,rfl,Nat.le_refl _,rfl,by simp [Ar],fun f hf=>by simp [Ar] at hf,hd3.mono (by omega)⟩
  rw [e4]
  simp only [Option.bind_some]
  simp only at ha1 ha2 ha3 hd4
  have h0:0<a.Ops.length:=by omega
  have hf0:=ha3 _ (As h0)
  have ht:Xi a:=⟨by omega,fun f hf=>by have:=ha3 f hf;omega⟩
  have hset : ∀ {z:Int} {f:SOp},f.Table.length≤101→Xi { Size:=z,Ops:=a.Ops.set (Int.toNat 0) f }:=fun hf=>⟨by simp;omega,fun g hg=>by
   rcases List.mem_or_eq_of_mem_set hg with h' | h'
   ·have:=ha3 g h';omega
   ·rw [h'];exact hf⟩
  obtain ⟨w,d5,e5,hd5,w0,_⟩:=Fd hd4 (by omega) 16
  rw [e5]
  simp only [Option.bind_some]
  by_cases c0:w=0
  ·rw [if_pos c0,Ag (by unfold InI;omega)]
   obtain ⟨r,d6,e6,hd6,_⟩:=Fj hd5 (by omega) [0,9,(N:Int)+1] (by simp)
   rw [e6]
   exact ⟨_,_,rfl,hd6.mono (by omega),ht⟩
  rw [if_neg c0]
  by_cases c1:w=1
  ·rw [if_pos c1,Ag (by omega),Ag (by simp only [Int.toNat_zero,List.length_singleton];omega)]
   exact ⟨_,_,rfl,hd5.mono (by omega),hset (by simp only [Int.toNat_zero,List.length_append,List.length_singleton];omega)⟩
  rw [if_neg c1]
  by_cases c2:w=2
  ·rw [if_pos c2,Ag (by omega)]
   obtain ⟨r,d6,e6,hd6,r0,r1⟩:=Fd hd5 (by omega) ((nth a.Ops (Int.toNat 0)).Table.length:Int)
   rw [e6]
   simp only [Option.bind_some]
   obtain ⟨s,d7,e7,hd7,_⟩:=Fj hd6 (by omega) [-1,(N:Int)] (by simp)
   rw [e7]
   simp only [Option.bind_some]
   simp only [Int.toNat_zero] at r1 ⊢
   rw [Ag (by omega)]
   exact ⟨_,_,rfl,hd7.mono (by omega),hset (by simp only [List.length_set];omega)⟩
  rw [if_neg c2]
  by_cases c3:w=3
  ·rw [if_pos c3]
   obtain ⟨r,d6,e6,hd6,_⟩:=Fj hd5 (by omega) [-1,4] (by simp)
   rw [e6]
   simp only [Option.bind_some]
   rw [Ag (by omega)]
   exact ⟨_,_,rfl,hd6.mono (by omega),hset (by simp only [Int.toNat_zero];omega)⟩
  rw [if_neg c3]
  by_cases c4:w=4
  ·rw [if_pos c4]
   obtain ⟨⟨a2,d6⟩,e6,ht2,hd6⟩:=Cc (body:=Dv (N:Int)) (fun s=>s.1.Ops.length≤5∧(∀f∈s.1.Ops,f.Table.length≤64)∧Cur (k+502+2*s.1.Ops.length) s.2) (fun s=>5-s.1.Ops.length) (fun t=>Xi t.1∧Cur (k+600) t.2) (fun s hs=>by
    obtain ⟨x5,x1⟩:=s
    obtain ⟨g1,g2,g3⟩:=hs
    simp only at g1 g2 g3
    unfold Dv
    dsimp only
    obtain ⟨r,d7,e7,hd7,r0,r1⟩:=Fd g3 (by omega) 2
    rw [e7]
    simp only [Option.bind_some]
    rw [Ag (by unfold InI;omega)]
    by_cases hl:(x5.Ops.length:Int)<4+r
    ·left
     rw [if_pos hl,Ag (by omega),Ag (by simp;omega)]
     refine ⟨_,rfl,⟨by simp;omega,fun f hf=> ?_,hd7.mono (by simp;omega)⟩,by simp;omega⟩
     rcases List.mem_append.1 hf with h' | h'
     ·exact g2 f h'
     ·rw [List.mem_singleton.1 h'];simp;omega
    ·right
     rw [if_neg hl]
     exact ⟨_,rfl,⟨by simp only;omega,fun f hf=>by have:=g2 f hf;omega⟩,hd7.mono (by omega)⟩) (s:=(a,d5)) ⟨by simp only;omega,fun f hf=>(ha3 f hf).2,hd5.mono (by omega)⟩
   rw [e6]
   exact ⟨_,_,rfl,hd6.mono (by omega),ht2⟩
  rw [if_neg c4]
  exact ⟨_,_,rfl,hd5.mono (by omega),ht⟩
 ·rw [if_neg hb]
  obtain ⟨r,d2,e2,hd2,_⟩:=Fd hd (by omega) 17
  rw [e2]
  simp only [Option.bind_some]
  obtain ⟨a,e3,ht⟩:=Aop r
  rw [e3]
  exact ⟨_,_,rfl,hd2.mono (by omega),ht⟩
theorem Auz {code:List Int} (hc : ∀x∈code,0≤x∧x≤255) (hl:code.length≤65536):Cur 0 ({ code:=code,at_:=0,seed:=0 }:Sl1Cur):=⟨hc,hl,Int.le_refl _,Int.le_refl _⟩
theorem Ra {c:Sl1Cur} {k:Nat} (h:Cur k c) (hk:k≤800000000) (a:SAlgebra) : ∃r d,Cf c a=some (r,d)∧Cur (k+4) d:=by
 unfold Cf
 by_cases h0:a.Size<1
 ·rw [if_pos h0]
  obtain ⟨r,d,e,hd,_⟩:=Fj h (by omega) [-1,a.Size] (by simp)
  rw [e]
  exact ⟨_,_,rfl,hd.mono (by omega)⟩
 ·rw [if_neg h0]
  obtain ⟨b,d,e,hd⟩:=R7 h (by omega) 24
  rw [e]
  simp only [Option.bind_some]
  by_cases hb:b=true
  ·rw [if_pos hb]
   obtain ⟨r,d2,e2,hd2,_⟩:=Fj hd (by omega) [-1,a.Size] (by simp)
   rw [e2]
   exact ⟨_,_,rfl,hd2.mono (by omega)⟩
  ·rw [if_neg hb]
   obtain ⟨r,d2,e2,hd2,_⟩:=Fd hd (by omega) a.Size
   rw [e2]
   exact ⟨_,_,rfl,hd2.mono (by omega)⟩
end Go.Proofs.Ytmmcfdfdacpjgaa.Ax
namespace Go.Proofs.Ytmmcfdfdacpjgaa.Ax
open Go Classical
theorem Awx {c:Sl1Cur} {k:Nat} (h:Cur k c) (hk:k≤800000000) (a:SAlgebra) : ∃r d,Hx c a=some (r,d)∧Cur (k+4) d:=by
 unfold Hx
 by_cases h0:(a.Ops.length:Int)=0
 ·rw [if_pos h0]
  obtain ⟨r,d,e,hd,_⟩:=Fj h (by omega) [-1,0,(a.Ops.length:Int)] (by simp)
  rw [e]
  exact ⟨_,_,rfl,hd.mono (by omega)⟩
 ·rw [if_neg h0]
  obtain ⟨b,d,e,hd⟩:=R7 h (by omega) 16
  rw [e]
  simp only [Option.bind_some]
  by_cases hb:b=true
  ·rw [if_pos hb]
   obtain ⟨r,d2,e2,hd2,_⟩:=Fj hd (by omega) [-1,0,(a.Ops.length:Int)] (by simp)
   rw [e2]
   exact ⟨_,_,rfl,hd2.mono (by omega)⟩
  ·rw [if_neg hb]
   obtain ⟨r,d2,e2,hd2,_⟩:=Fd hd (by omega) (a.Ops.length:Int)
   rw [e2]
   exact ⟨_,_,rfl,hd2.mono (by omega)⟩
def Q2 (w:Nat) (T:List (List Int)):Prop := ∀t∈T,t.length=w
section
variable {a:SAlgebra} {w:Nat} (h5:w≤5)
include h5
theorem A23 {c:Sl1Cur} {k:Nat} (hc:Cur k c) (hk:k≤700000000) (x:Int) (T:List (List Int)) : ∃u d,Am (De a w x T) (0,Ar Int,c)=some (u,d)∧u.length=w∧Cur (k+20) d:=by
 have hL:=Av
 obtain ⟨⟨u,d⟩,e,h1,h2⟩:=Cc (body:=De a w x T) (fun s => ∃i:Nat,s.1=(i:Int)∧i≤w∧s.2.1.length=i∧Cur (k+4*i) s.2.2) (fun s=>w-s.1.toNat) (fun u=>u.1.length=w∧Cur (k+20) u.2) (by
  rintro ⟨y,u,d⟩ ⟨i,hy,hi,hu,hd⟩
  dsimp only at hy hu hd
  subst hy
  unfold De
  dsimp only
  by_cases h:i<w
  ·obtain ⟨r,d2,e2,h2⟩:=Ra hd (by omega) a
   rw [if_pos (by omega),e2]
   simp only [Option.bind_some]
   rw [Ag (by simp;omega),Ag (by unfold InI;omega)]
   exact .inl ⟨_,rfl,⟨i+1,rfl,h,by simp [hu],h2.mono (by omega)⟩,by dsimp only;omega⟩
  ·rw [if_neg (by omega)]
   exact .inr ⟨_,rfl,by dsimp only;omega,hd.mono (by omega)⟩) (s:=((0:Int),Ar Int,c)) ⟨0,rfl,Nat.zero_le _,rfl,hc⟩
 exact ⟨u,d,e,h1,h2⟩
theorem A33 {c:Sl1Cur} {k:Nat} (hc:Cur k c) (hk:k≤600000000) {m:Int} (h0:0≤m) (h3:m≤3) : ∃T d,Am (Dd a w) (m,Ar (List Int),c)=some (T,d)∧T.length≤3∧Q2 w T∧Cur (k+100) d:=by
 have hL:=Av
 obtain ⟨⟨T,d⟩,e,h1,h2,h3⟩:=Cc (body:=Dd a w) (fun s => ∃j:Nat,s.1=(j:Int)∧s.2.1.length+j≤3∧Q2 w s.2.1∧Cur (k+20*s.2.1.length) s.2.2) (fun s=>s.1.toNat) (fun u=>u.1.length≤3∧Q2 w u.1∧Cur (k+100) u.2) (by
  rintro ⟨y,T,d⟩ ⟨j,hy,hj,hT,hd⟩
  dsimp only at hy hj hT hd
  subst hy
  unfold Dd
  dsimp only
  by_cases h:0<j
  ·obtain ⟨u,d2,e2,h1,h2⟩:=A23 (a:=a) h5 hd (by omega) (j:Int) T
   rw [if_pos (by omega),e2]
   simp only [Option.bind_some]
   rw [Ag (by simp;omega),Ag (by unfold InI;omega)]
   refine .inl ⟨_,rfl,⟨j-1,by dsimp only;omega,by simp;omega,fun t ht=> ?_,h2.mono (by simp;omega)⟩,by dsimp only;omega⟩
   rcases List.mem_append.1 ht with ht | ht
   ·exact hT t ht
   ·rw [List.mem_singleton.1 ht];exact h1
  ·rw [if_neg (by omega)]
   exact .inr ⟨_,rfl,by dsimp only;omega,hT,hd.mono (by omega)⟩) (s:=(m,Ar (List Int),c)) ⟨m.toNat,by dsimp only;omega,by simp [Ar];omega,fun t ht=>(by cases ht),by simpa [Ar] using hc⟩
 exact ⟨T,d,e,h1,h2,h3⟩
theorem A25 {c:Sl1Cur} {k:Nat} (hc:Cur k c) (hk:k≤600000000) {i:Nat} {T:List (List Int)} (hi:i<T.length) (hT:Q2 w T) : ∃U d,Am (Dc a w (i:Int)) (0,T,c)=some (U,d)∧U.length=T.length∧Q2 w U∧Cur (k+20) d:=by
 have hL:=Av
 obtain ⟨⟨U,d⟩,e,h1,h2,h3⟩:=Cc (body:=Dc a w (i:Int)) (fun s => ∃j:Nat,s.1=(j:Int)∧j≤w∧s.2.1.length=T.length∧Q2 w s.2.1∧Cur (k+2*j) s.2.2) (fun s=>w-s.1.toNat) (fun u=>u.1.length=T.length∧Q2 w u.1∧Cur (k+20) u.2) (by
  rintro ⟨y,U,d⟩ ⟨j,hy,hj,hl,hU,hd⟩
  dsimp only at hy hl hU hd
  subst hy
  unfold Dc
  dsimp only
  by_cases h:j<w
  ·obtain ⟨r,d2,e2,h2,_⟩:=Fd hd (by omega) (if a.Size<8 then a.Size else 8)
   have hrow:=hU _ (As (show i<U.length by omega))
   have el:E1 a.Size 8=some (if a.Size<8 then a.Size else 8):=by unfold E1;split<;>rfl
   rw [if_pos (by omega),Ag (by omega),el]
   simp only [Option.bind_some]
   rw [e2]
   simp only [Option.bind_some]
   rw [Int.toNat_natCast,Ag (by omega),Ag (by unfold InI;omega)]
   refine .inl ⟨_,rfl,⟨j+1,rfl,h,by simp [hl],fun t ht=> ?_,h2.mono (by omega)⟩,by dsimp only;omega⟩
   rcases List.mem_or_eq_of_mem_set ht with ht | ht
   ·exact hU t ht
   ·rw [ht,List.length_set];exact hrow
  ·rw [if_neg (by omega)]
   exact .inr ⟨_,rfl,hl,hU,hd.mono (by omega)⟩) (s:=((0:Int),T,c)) ⟨0,rfl,Nat.zero_le _,rfl,hT,hc⟩
 exact ⟨U,d,e,h1,h2,h3⟩
theorem A4d {c:Sl1Cur} {k:Nat} (hc:Cur k c) (hk:k≤500000000) {T:List (List Int)} (hl:T.length≤3) (hT:Q2 w T) : ∃U d,Am (Cs a w) (0,T,c)=some (U,d)∧U.length≤3∧Q2 w U∧Cur (k+100) d:=by
 have hL:=Av
 obtain ⟨⟨U,d⟩,e,h1,h2,h3⟩:=Cc (body:=Cs a w) (fun s => ∃j:Nat,s.1=(j:Int)∧j≤s.2.1.length∧s.2.1.length≤3∧Q2 w s.2.1∧Cur (k+22*j) s.2.2) (fun s=>3-s.1.toNat) (fun u=>u.1.length≤3∧Q2 w u.1∧Cur (k+100) u.2) (by
  rintro ⟨y,U,d⟩ ⟨j,hy,hj,hl,hU,hd⟩
  dsimp only at hy hj hl hU hd
  subst hy
  unfold Cs
  dsimp only
  by_cases h:j<U.length
  ·obtain ⟨b,d2,e2,h2⟩:=R7 hd (by omega) 2
   rw [if_pos (by omega),e2]
   simp only [Option.bind_some]
   by_cases hb:b=true
   ·rw [if_pos hb]
    simp only [Option.bind_some]
    obtain ⟨V,d3,e3,g1,g2,g3⟩:=A25 (a:=a) h5 h2 (by omega) h hU
    rw [e3]
    simp only [Option.bind_some]
    rw [Ag (by unfold InI;omega)]
    exact .inl ⟨_,rfl,⟨j+1,rfl,by dsimp only;omega,by dsimp only;omega,g2,g3.mono (by omega)⟩,by dsimp only;omega⟩
   ·rw [if_neg hb]
    exact .inr ⟨_,rfl,hl,hU,h2.mono (by omega)⟩
  ·rw [if_neg (by omega)]
   exact .inr ⟨_,rfl,hl,hU,hd.mono (by omega)⟩) (s:=((0:Int),T,c)) ⟨0,rfl,Nat.zero_le _,hl,hT,hc⟩
 exact ⟨U,d,e,h1,h2,h3⟩
theorem A3s {c:Sl1Cur} {k:Nat} (hc:Cur k c) (hk:k≤500000000) {T:List (List Int)} (hl:T.length≤3) (hT:Q2 w T) : ∃U d,Am (Dg w) (T,c)=some (U,d)∧U.length≤21∧Q2 w U∧Cur (k+100) d:=by
 have hL:=Av
 obtain ⟨⟨U,d⟩,e,h1,h2,h3⟩:=Cc (body:=Dg w) (fun s=>s.1.length≤21∧Q2 w s.1∧Cur (k+2*s.1.length) s.2) (fun s=>22-s.1.length) (fun u=>u.1.length≤21∧Q2 w u.1∧Cur (k+100) u.2) (by
  rintro ⟨U,d⟩ ⟨hl,hU,hd⟩
  dsimp only at hl hU hd
  unfold Dg
  dsimp only
  obtain ⟨r,d2,e2,h2,r0,r1⟩:=Fd hd (by omega) 2
  rw [e2]
  simp only [Option.bind_some]
  rw [Ag (by unfold InI;omega)]
  by_cases h:(U.length:Int)<20+r
  ·rw [if_pos h,Ag (by omega),Ag (by simp;omega)]
   refine .inl ⟨_,rfl,⟨by simp;omega,fun t ht=> ?_,h2.mono (by simp;omega)⟩,by simp;omega⟩
   rcases List.mem_append.1 ht with ht | ht
   ·exact hU t ht
   ·rw [List.mem_singleton.1 ht];simp
  ·rw [if_neg h]
   exact .inr ⟨_,rfl,by dsimp only;omega,hU,h2.mono (by omega)⟩) (s:=(T,c)) ⟨by dsimp only;omega,hT,hc.mono (by omega)⟩
 exact ⟨U,d,e,h1,h2,h3⟩
end
theorem Atz {c:Sl1Cur} {k:Nat} (h:Cur k c) (hk:k≤400000000) (a:SAlgebra) : ∃q T d,Gq c a 3=some ((q,T),d)∧Cur (k+500) d∧T.length≤21 ∧ ∀t∈T,t.length≤5:=by
 have hL:=Av
 unfold Gq
 obtain ⟨r1,d1,e1,h1,m1⟩:=Fj h (by omega) [1,2,2,3,4,2,5] (by decide)
 rw [e1]
 simp only [Option.bind_some]
 obtain ⟨w,rfl,hw⟩ : ∃w:Nat,r1=(w:Int)∧w≤5:=⟨r1.toNat,by simp at m1;omega,by simp at m1;omega⟩
 rw [Ag (by unfold InI;decide)]
 obtain ⟨r2,d2,e2,h2,m2,m3⟩:=Fd h1 (by omega) (3+1)
 rw [e2]
 simp only [Option.bind_some]
 obtain ⟨T,d3,e3,t1,t2,h3⟩:=A33 (a:=a) hw h2 (by omega) m2 (by omega)
 rw [e3]
 simp only [Option.bind_some]
 have mid : ∃U d,((if a.Size>0 then (Am (Cs a w) (0,T,d3)).bind fun (q29_9,q29_100)=>some (q29_9,q29_100) else some (T,d3):Option ((List (List Int))×Sl1Cur)))=some (U,d)∧U.length≤3∧Q2 w U∧Cur (k+250) d:=by
  by_cases hs:a.Size>0
  ·rw [if_pos hs]
   obtain ⟨U,d,e,u1,u2,u3⟩:=A4d (a:=a) hw h3 (by omega) t1 t2
   rw [e]
   exact ⟨U,d,rfl,u1,u2,u3.mono (by omega)⟩
  ·rw [if_neg hs]
   exact ⟨T,d3,rfl,t1,t2,h3.mono (by omega)⟩
 obtain ⟨U,d4,e4,u1,u2,h4⟩:=mid
 have e4':=e4
 rw [e4']
 simp only [Option.bind_some]
 have hsm : ∀t∈U,t.length≤5:=fun t ht=>by rw [u2 t ht];exact hw
 obtain ⟨r5,d5,e5,h5,_⟩:=Fd h4 (by omega) 40
 rw [e5]
 simp only [Option.bind_some]
 by_cases c0:r5=0
 ·rw [if_pos c0]
  obtain ⟨r6,d6,e6,h6,_⟩:=Fj h5 (by omega) [0,65, -1,64] (by decide)
  rw [e6]
  exact ⟨_,_,_,rfl,h6.mono (by omega),by omega,hsm⟩
 rw [if_neg c0]
 by_cases c1:r5=1
 ·rw [if_pos c1,Ag (by simp;omega)]
  refine ⟨_,_,_,rfl,h5.mono (by omega),by simp;omega,fun t ht=> ?_⟩
  rcases List.mem_append.1 ht with ht | ht
  ·exact hsm t ht
  ·rw [List.mem_singleton.1 ht];decide
 rw [if_neg c1]
 by_cases c2:r5=2
 ·rw [if_pos c2]
  obtain ⟨V,d6,e6,v1,v2,h6⟩:=A3s hw h5 (by omega) u1 u2
  rw [e6]
  exact ⟨_,_,_,rfl,h6.mono (by omega),v1,fun t ht=>by rw [v2 t ht];exact hw⟩
 rw [if_neg c2]
 exact ⟨_,_,_,rfl,h5.mono (by omega),by omega,hsm⟩
theorem Akb {c:Sl1Cur} {k:Nat} (h:Cur k c) (hk:k≤300000000) {a:SAlgebra} (ha:Ku a) : ∃q T d,D7 c a=some ((q,T),d)∧Cur (k+1000) d∧T.length≤1300 ∧ ∀t∈T,t.length≤64:=by
 have hL:=Av
 unfold D7
 obtain ⟨q,G,d1,e1,h1,g1,g2⟩:=Atz h (by omega) a
 rw [e1]
 simp only [Option.bind_some]
 have hgens:I5 a q G=some (decide (Dp a∧G.length≤20∧Kq a.Size q G∧1≤q∧q≤64)):=by
  unfold I5
  rw [Ajq ha]
  simp only [Option.bind_some]
  by_cases g:Dp a
  case neg=>
   rw [if_neg (by rw [decide_eq_true_eq];exact g)]
   congr 1;symm;rw [decide_eq_false_iff_not];exact fun h=>g h.1
  rw [if_pos (by rw [decide_eq_true_eq];exact g)]
  by_cases hl:(G.length:Int)≤20
  case neg=>
   rw [if_neg hl]
   congr 1;symm;rw [decide_eq_false_iff_not];exact fun h=>hl (by have:=h.2.1;omega)
  have e8:=Abt (n:=a.Size.toNat) (by have:=g.2.1;omega) (T:=G) (by omega) (fun t ht=>by have:=g2 t ht;omega) q
  rw [show ((a.Size.toNat:Nat):Int)=a.Size by have:=g.1;omega] at e8
  rw [if_pos hl,e8]
  simp only [Option.bind_some]
  congr 1
  exact decide_eq_decide.2 ⟨fun h=>⟨g,by omega,h⟩,fun h=>h.2.2⟩
 have mid : ∃T d,((((I5 a q G).bind fun r3=>if r3=true then (Bz d1 12).bind fun (r5,u6)=>some (!r5,u6) else some (false,d1):Option (Bool×Sl1Cur))).bind fun (q7_24,q7_52)=>
   if q7_24=true then (Hw a q G).bind fun r9=>some (r9.1,q7_52) else some (G,q7_52):Option ((List (List Int))×Sl1Cur))=some (T,d)∧Cur (k+600) d∧T.length≤1200 ∧ ∀t∈T,t.length≤64:=by
  have none_ : ∀d,Cur (k+600) d → ∃T d',(some (G,d):Option ((List (List Int))×Sl1Cur))=some (T,d')∧Cur (k+600) d'∧T.length≤1200 ∧ ∀t∈T,t.length≤64:=fun d hd=>
   ⟨G,d,rfl,hd,by omega,fun t ht=>by have:=g2 t ht;omega⟩
  rw [hgens]
  simp only [Option.bind_some]
  by_cases hg:Dp a∧G.length≤20∧Kq a.Size q G∧1≤q∧q≤64
  ·rw [if_pos (by rw [decide_eq_true_eq];exact hg)]
   obtain ⟨b,d2,e2,h2⟩:=R7 h1 (by omega) 12
   rw [e2]
   simp only [Option.bind_some]
   cases b with
   | true=>
     rw [if_neg (by decide)]
     exact none_ d2 (h2.mono (by omega))
   | false=>
     rw [if_pos (by decide)]
     obtain ⟨ga,_,hro,q1,q2⟩:=hg
     have hn:a.Size=(a.Size.toNat:Int):=by have:=ga.1;omega
     have hq:q=(q.toNat:Int):=by omega
     have hro':Kq (a.Size.toNat:Int) (q.toNat:Int) G:=by rw [←hn,←hq];exact hro
     obtain ⟨T,b2,e3,t1,t2⟩:=Atw (a:=a) (n:=a.Size.toNat) (w:=q.toNat) hn (by have:=ga.2.1;omega) (by have:=ga.2.2.1;omega) (fun i hi=>⟨_,(Km ga hn hi).1⟩) (by omega) (gens:=G) (by omega) fun t ht=>hro'.row t ht
     rw [←hq] at e3
     rw [e3]
     exact ⟨T,d2,rfl,h2.mono (by omega),t1,fun t ht=>by rw [t2 t ht];omega⟩
  ·rw [if_neg (by rw [decide_eq_true_eq];exact hg)]
   simp only [Option.bind_some,Bool.false_eq_true,if_false]
   exact none_ d1 (h1.mono (by omega))
 obtain ⟨T,d2,e2,h2,t1,t2⟩:=mid
 rw [e2]
 simp only [Option.bind_some]
 obtain ⟨r3,d3,e3,h3,_⟩:=Fd h2 (by omega) 32
 rw [e3]
 simp only [Option.bind_some]
 by_cases c0:r3=0
 ·rw [if_pos c0]
  by_cases hT:(T.length:Int)>0
  ·rw [if_pos hT,Ag (by omega)]
   exact ⟨_,_,_,rfl,h3.mono (by omega),by rw [List.length_take,List.length_drop];omega,fun t ht=>t2 t (List.mem_of_mem_drop (List.mem_of_mem_take ht))⟩
  ·rw [if_neg hT]
   exact ⟨_,_,_,rfl,h3.mono (by omega),by omega,t2⟩
 rw [if_neg c0]
 by_cases c1:r3=1
 ·rw [if_pos c1]
  have el:E1 q 64=some (if q<64 then q else 64):=by unfold E1;split<;>rfl
  rw [el]
  simp only [Option.bind_some]
  rw [Ajx]
  simp only [Option.bind_some]
  obtain ⟨v,hv,hv2⟩ : ∃v:Nat,(if 0>(if q<64 then q else 64) then 0 else (if q<64 then q else 64):Int)=(v:Int)∧v≤64:=by
   refine ⟨(if 0>(if q<64 then q else 64) then 0 else (if q<64 then q else 64):Int).toNat,?_,?_⟩<;>split<;>split at * <;> omega
  rw [hv,Ag (by omega),Ag (by simp;omega)]
  refine ⟨_,_,_,rfl,h3.mono (by omega),by simp;omega,fun t ht=> ?_⟩
  rcases List.mem_append.1 ht with ht | ht
  ·exact t2 t ht
  ·rw [List.mem_singleton.1 ht];simp;omega
 rw [if_neg c1]
 exact ⟨_,_,_,rfl,h3.mono (by omega),by omega,t2⟩
theorem A0l {code:List Int} (hc : ∀x∈code,0≤x∧x≤255) (hl:code.length≤65536) : ∃a q T,Cn code=some (a,q,T)∧Xi a∧T.length≤1300 ∧ ∀t∈T,t.length≤64:=by
 unfold Cn Gu
 obtain ⟨a,d,e,hd,ha⟩:=Acy (Auz hc hl) (by omega)
 rw [e]
 simp only [Option.bind_some]
 obtain ⟨q,T,d2,e2,_,h2,h3⟩:=Akb hd (by omega) (Ty ha)
 rw [e2]
 exact ⟨_,_,_,rfl,ha,h2,h3⟩
theorem Al5 {code:List Int} (hc : ∀x∈code,0≤x∧x≤255) (hl:code.length≤65536) : ∃a op T,Gk code=some (a,op,T)∧Xi a∧T.length≤3 ∧ ∀t∈T,t.length≤3:=by
 have hL:=Av
 unfold Gk
 obtain ⟨a,d,e,hd,ha⟩:=Acy (Auz hc hl) (by omega)
 rw [e]
 simp only [Option.bind_some]
 obtain ⟨op,d2,e2,h2⟩:=Awx hd (by omega) a
 rw [e2]
 simp only [Option.bind_some]
 have mid : ∃(m:Int) (d3:Sl1Cur),(((Gs a op).bind fun r5=>if r5=true then (Bz d2 8).bind fun (r7,u8)=>if r7=true then some (2,u8) else ask (0≤op∧op<(a.Ops.length:Int))<|some ((nth a.Ops op.toNat).Arity,u8) else some (2,d2):Option (Int×Sl1Cur)))=some (m,d3)∧0≤m∧m≤3∧Cur 1100 d3:=by
  rw [Aks (Ty ha) (by have:=ha.1;omega)]
  simp only [Option.bind_some]
  by_cases g:Dp a∧0≤op∧op<a.Ops.length
  ·rw [if_pos (by rw [decide_eq_true_eq];exact g)]
   obtain ⟨b,d3,e3,h3⟩:=R7 h2 (by omega) 8
   rw [e3]
   simp only [Option.bind_some]
   by_cases hb:b=true
   ·rw [if_pos hb];exact ⟨_,_,rfl,by omega,by omega,h3.mono (by omega)⟩
   ·rw [if_neg hb,Ag g.2]
    obtain ⟨_,q2,q3,_⟩:=Km g.1 (n:=a.Size.toNat) (by have:=g.1.1;omega) (i:=op.toNat) (by omega)
    exact ⟨_,_,rfl,by omega,by omega,h3.mono (by omega)⟩
  ·rw [if_neg (by rw [decide_eq_true_eq];exact g)]
   exact ⟨_,_,rfl,by omega,by omega,h2.mono (by omega)⟩
 obtain ⟨m,d3,e3,m0,m3,h3⟩:=mid
 rw [e3]
 simp only [Option.bind_some]
 obtain ⟨⟨T,d4⟩,e4,t1,t2,h4⟩:=Cc (body:=Ek a op) (fun s => ∃j:Nat,s.2.1=(j:Int)∧s.1.length+j≤3∧(∀t∈s.1,t.length=3)∧Cur (1100+12*s.1.length) s.2.2) (fun s=>s.2.1.toNat) (fun u=>u.1.length≤3∧(∀t∈u.1,t.length=3)∧Cur 1200 u.2) (by
  rintro ⟨T,y,d⟩ ⟨j,hy,hj,hT,hd⟩
  dsimp only at hy hj hT hd
  subst hy
  unfold Ek
  dsimp only
  by_cases h:0<j
  ·obtain ⟨x1,u1,f1,k1⟩:=Ra hd (by omega) a
   obtain ⟨x2,u2,f2,k2⟩:=Ra k1 (by omega) a
   obtain ⟨x3,u3,f3,k3⟩:=Ra k2 (by omega) a
   rw [if_pos (by omega),f1]
   simp only [Option.bind_some]
   rw [f2]
   simp only [Option.bind_some]
   rw [f3]
   simp only [Option.bind_some]
   rw [Ag (by simp;omega),Ag (by unfold InI;omega)]
   refine .inl ⟨_,rfl,⟨j-1,by dsimp only;omega,by simp;omega,fun t ht=> ?_,k3.mono (by simp;omega)⟩,by dsimp only;omega⟩
   rcases List.mem_append.1 ht with ht | ht
   ·exact hT t ht
   ·rw [List.mem_singleton.1 ht];rfl
  ·rw [if_neg (by omega)]
   exact .inr ⟨_,rfl,by dsimp only;omega,hT,hd.mono (by omega)⟩) (s:=(Ar (List Int),m,d3)) ⟨m.toNat,by dsimp only;omega,by simp [Ar];omega,fun t ht=>(by cases ht),by simpa [Ar] using h3⟩
 rw [e4]
 simp only [Option.bind_some]
 have hsm3 : ∀t∈T,t.length≤3:=fun t ht=>by rw [t2 t ht];exact Nat.le_refl _
 by_cases hT:(T.length:Int)>1
 ·obtain ⟨b,d5,e5,_⟩:=R7 h4 (by omega) 12
  rw [if_pos hT,e5]
  simp only [Option.bind_some]
  by_cases hb:b=true
  ·have hrow:(nth T 1).length=3:=t2 _ (As (show 1<T.length by omega))
   rw [if_pos hb,Ag (by omega),show (1:Int).toNat=1 from rfl,Ag (by omega),Ag (by omega)]
   refine ⟨_,_,_,rfl,ha,by simp;omega,fun t ht=> ?_⟩
   rcases List.mem_or_eq_of_mem_set ht with ht | ht
   ·exact hsm3 t ht
   ·rw [ht,List.length_take,List.length_drop];omega
  ·rw [if_neg hb]
   exact ⟨_,_,_,rfl,ha,t1,hsm3⟩
 ·rw [if_neg hT]
  exact ⟨_,_,_,rfl,ha,t1,hsm3⟩
end Go.Proofs.Ytmmcfdfdacpjgaa.Ax
