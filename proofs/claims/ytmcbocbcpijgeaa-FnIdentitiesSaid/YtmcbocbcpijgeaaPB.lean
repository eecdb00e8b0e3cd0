/-
 Plain facts, joined.
-/
import Derived.Test.YtmcbocbcpijgeaaPA
namespace Go.Proofs.Ytmcbocbcpijgeaa.Ax
open Go Classical
def Au1 (m i:Nat):Bool:=decide (m/2^i%2=1)
def anti (f:Nat→Nat→Bool) (ls:List Int):Prop := ∀x∈ls,∀y∈ls,¬(x.toNat≠y.toNat∧f x.toNat y.toNat=true)
end Go.Proofs.Ytmcbocbcpijgeaa.Ax
namespace Go.Proofs.Ytmcbocbcpijgeaa.Ax
open Go Classical
def pc (n m:Nat):Nat:=(A7 n (Au1 m)).length
theorem Anj {q q':Nat→Bool} {x:Nat} (hq:q x=false) (h : ∀i,q' i=(q i || decide (x=i))) : ∀n,(A7 n q').length=(A7 n q).length+if x<n then 1 else 0:=by
 intro n
 induction n with
 | zero=>simp [A7]
 | succ n ih=>
   rw [Q4,Q4,h n]
   by_cases hxn:x=n
   ·subst hxn
    rw [hq]
    simp only [decide_true,Bool.or_true,if_true,Bool.false_eq_true,if_false]
    rw [List.length_append,ih,if_neg (by omega),if_pos (by omega)];rfl
   ·rw [decide_eq_false hxn,Bool.or_false]
    by_cases hqn:q n=true
    ·rw [if_pos hqn,if_pos hqn,List.length_append,List.length_append,ih]
     by_cases hx:x<n
     ·rw [if_pos hx,if_pos (by omega)];simp
     ·rw [if_neg hx,if_neg (by omega)];rfl
    ·rw [if_neg hqn,if_neg hqn,ih]
     by_cases hx:x<n
     ·rw [if_pos hx,if_pos (by omega)]
     ·rw [if_neg hx,if_neg (by omega)]
def wt (n m:Nat):Nat:=10^(10-pc n m)
def phi (n:Nat) (ws:List Int):Nat→Nat→Int
 | _,0=>0
 | M,k+1=>nth ws M*wt n M+phi n ws (M+1) k
section
variable {n:Nat} {f:Nat→Nat→Bool}
structure okW (n m:Nat) (ws:List Int):Prop where
 len:ws.length=2^n
 pos : ∀i,i<ws.length→0≤nth ws i
 sum:phi n ws m (2^n-m)≤10000000000
end
end Go.Proofs.Ytmcbocbcpijgeaa.Ax
namespace Go.Proofs.Ytmcbocbcpijgeaa.Ax
open Go Classical
end Go.Proofs.Ytmcbocbcpijgeaa.Ax
namespace Go.Proofs.Ytmcbocbcpijgeaa.Ax
open Go Classical
end Go.Proofs.Ytmcbocbcpijgeaa.Ax
namespace Go.Proofs.Ytmcbocbcpijgeaa.Ax
open Go Classical
theorem Ahy {xs:List Int}:Zo xs↔xs.Pairwise (· < ·):=by
 constructor
 ·intro h
  refine List.pairwise_iff_getElem.2 fun i j hi hj hij=> ?_
  have:=Ta h hij hj
  rwa [D2 hi,D2 hj] at this
 ·intro h i h1 h2
  have:=List.pairwise_iff_getElem.1 h (i-1) i (by omega) h2 (by omega)
  rwa [D2 (by omega),D2 h2]
noncomputable def Auu (n:Nat) (g h:Nat→Nat→Nat) (S:Nat→Bool):Nat→Bool:=fun z=>decide (S z=true ∨ ∃x y,x<n∧y<n∧S x=true∧S y=true∧(z=g x y∨z=h x y))
noncomputable def Ag4 (n:Nat) (g h:Nat→Nat→Nat) (S:Nat→Bool):Nat→Nat→Bool
 | 0=>S
 | k+1=>Auu n g h (Ag4 n g h S k)
section
variable {n:Nat} {g h:Nat→Nat→Nat} {S:Nat→Bool}
def Au2 (n:Nat) (g h:Nat→Nat→Nat) (S:Nat→Bool) (k:Nat):Prop := ∀z,z<n→Ag4 n g h S (k+1) z=Ag4 n g h S k z
noncomputable def closed (n:Nat) (g h:Nat→Nat→Nat) (S:Nat→Bool):Nat→Bool:=Ag4 n g h S n
def Auz (n:Nat) (S:Nat→Bool):List Nat:=(List.range n).filter S
end
end Go.Proofs.Ytmcbocbcpijgeaa.Ax
namespace Go.Proofs.Ytmcbocbcpijgeaa.Ax
open Go Classical
theorem Asy {n:Nat} {S:Nat→Bool} {z k:Nat} (hz:z<n) (hk:k≤(A7 n S).length) (h1 : ∀j,j<k→nth (A7 n S) j<(z:Int)) (h2:k<(A7 n S).length→(z:Int)<nth (A7 n S) k) :
  (A7 n S).take k++[(z:Int)]++(A7 n S).drop k=A7 n fun a=>decide (S a=true∨a=z):=by
 have hr:=Nz n S
 have e:=List.take_append_drop k (A7 n S)
 refine An7 (Ahy.2 ?_) (Nz _ _) fun x=> ?_
 ·rw [List.append_assoc,List.pairwise_append]
  have hp:=Ahy.1 hr
  rw [←e,List.pairwise_append] at hp
  have ht : ∀a∈(A7 n S).take k,a<(z:Int):=by
   intro a ha
   obtain ⟨j,hj,rfl⟩:=Io.1 ha
   have hj':j<k:=by rw [List.length_take] at hj;omega
   have:=h1 j hj'
   rw [D2 hj,List.getElem_take]
   rwa [D2 (by omega)] at this
  have hd : ∀a∈(A7 n S).drop k,(z:Int)<a:=by
   intro a ha
   obtain ⟨j,hj,rfl⟩:=Io.1 ha
   rw [List.length_drop] at hj
   have h3:=h2 (by omega)
   have h4:nth ((A7 n S).drop k) j=nth (A7 n S) (k+j):=by
    rw [D2 (by rw [List.length_drop];omega),D2 (by omega),List.getElem_drop]
   rw [h4]
   by_cases hj0:j=0
   ·subst hj0;exact h3
   ·have:=Ta hr (i:=k) (j:=k+j) (by omega) (by omega);omega
  refine ⟨hp.1,?_,?_⟩
  ·rw [List.singleton_append,List.pairwise_cons]
   exact ⟨hd,hp.2.1⟩
  ·intro a ha b hb
   rcases List.mem_append.1 hb with hb | hb
   ·rw [List.mem_singleton.1 hb];exact ht a ha
   ·exact hp.2.2 a ha b hb
 ·have hm:x∈A7 n S↔x∈(A7 n S).take k∨x∈(A7 n S).drop k:=by rw [←List.mem_append,e]
  rw [List.mem_append,List.mem_append,List.mem_singleton]
  have:(x∈A7 n S∨x=(z:Int))↔x∈A7 n fun a=>decide (S a=true∨a=z):=by
   rw [Hf,Hf]
   constructor
   ·rintro (⟨i,a,b,rfl⟩ | rfl)
    ·exact ⟨i,a,decide_eq_true (.inl b),rfl⟩
    ·exact ⟨z,hz,decide_eq_true (.inr rfl),rfl⟩
   ·rintro ⟨i,a,b,rfl⟩
    rcases of_decide_eq_true b with c | c
    ·exact .inl ⟨i,a,c,rfl⟩
    ·exact .inr (by omega)
  rw [←this,hm]
  constructor
  ·rintro ((h | h) | h)
   ·exact .inl (.inl h)
   ·exact .inr h
   ·exact .inl (.inr h)
  ·rintro ((h | h) | h)
   ·exact .inl (.inl h)
   ·exact .inr h
   ·exact .inl (.inr h)
theorem At1 {n:Nat} {S:Nat→Bool} {z k:Nat} (hk:k<(A7 n S).length) (h:nth (A7 n S) k=(z:Int)):A7 n S=A7 n fun a=>decide (S a=true∨a=z):=by
 obtain ⟨i,a,b,c⟩:=Hf.1 (Bk hk)
 rw [h] at c
 refine Oo fun j _=> ?_
 by_cases hj:j=z
 ·have:j=i:=by omega
  subst this
  rw [b];exact (decide_eq_true (.inl rfl)).symm
 ·cases hS:S j<;>simp [hj]
theorem Ari {n:Nat} (hn:n≤1000) (S:Nat→Bool) {z:Nat} (hz:z<n):Hj (A7 n S) (z:Int)=some (A7 n fun a=>decide (S a=true∨a=z)):=by
 unfold Hj
 have hl:=Yr n S
 rw [show ((0:Int))=(((0:Nat)):Int) from rfl]
 have key : ∃k:Nat,k≤(A7 n S).length∧(∀j,j<k→nth (A7 n S) j<(z:Int))∧(k<(A7 n S).length→¬nth (A7 n S) k<(z:Int))∧Ay (Dw (A7 n S) (z:Int)) (((0:Nat)):Int)=some (k:Int):=by
  rcases Any (body:=Dw (A7 n S) (z:Int)) (fun i=>(i:Int)) (A7 n S).length (fun i=>¬nth (A7 n S) i<(z:Int)) (fun i=>(i:Int)) ((A7 n S).length:Int) (fun i hi hh=>by
    unfold Dw
    rw [if_pos (by omega),Ae (by omega),Int.toNat_natCast,if_pos (Classical.not_not.1 hh),Ae (by unfold InI;omega)];rfl) (fun i hi hh=>by
    unfold Dw
    rw [if_pos (by omega),Ae (by omega),Int.toNat_natCast,if_neg hh]) (by
    unfold Dw
    rw [if_neg (by omega)]) with ⟨i,hi,hh,hj,e⟩ | ⟨hno,e⟩
  ·exact ⟨i,by omega,fun j h=>Classical.not_not.1 (hj j h),fun _=>hh,e⟩
  ·exact ⟨_,Nat.le_refl _,fun j h=>Classical.not_not.1 (hno j h),fun h=>absurd h (Nat.lt_irrefl _),e⟩
 obtain ⟨k,hk,h1,h2,e⟩:=key
 rw [e]
 simp only [Option.bind_some]
 have tail:(¬k<(A7 n S).length∨nth (A7 n S) k≠(z:Int))→(ask (0≤(((0:Nat)):Int)∧(((0:Nat)):Int)≤(k:Int)∧(k:Int)≤(((A7 n S).length:Nat):Int)) <|
   ask ((A8 Int).length+(List.take ((k:Int).toNat-Int.toNat ((((0:Nat)):Int))) (List.drop (Int.toNat ((((0:Nat)):Int))) (A7 n S))).length≤LIM) <|
   ask ((A8 Int++List.take ((k:Int).toNat-Int.toNat ((((0:Nat)):Int))) (List.drop (Int.toNat ((((0:Nat)):Int))) (A7 n S))).length+([(z:Int)]).length≤LIM) <|
   ask (0≤(k:Int)∧(k:Int)≤((A7 n S).length:Int)∧((A7 n S).length:Int)≤(((A7 n S).length:Nat):Int)) <|
   ask ((A8 Int++List.take ((k:Int).toNat-Int.toNat ((((0:Nat)):Int))) (List.drop (Int.toNat ((((0:Nat)):Int))) (A7 n S))++[(z:Int)]).length+(List.take (((A7 n S).length:Int).toNat-(k:Int).toNat) (List.drop (k:Int).toNat (A7 n S))).length≤LIM) <|
   some (A8 Int++List.take ((k:Int).toNat-Int.toNat ((((0:Nat)):Int))) (List.drop (Int.toNat ((((0:Nat)):Int))) (A7 n S))++[(z:Int)]++List.take (((A7 n S).length:Int).toNat-(k:Int).toNat) (List.drop (k:Int).toNat (A7 n S))))=some (A7 n fun a=>decide (S a=true∨a=z)):=by
  intro h3
  simp only [Int.toNat_natCast,List.drop_zero,Nat.sub_zero,List.nil_append]
  have ed:List.take ((A7 n S).length-k) (List.drop k (A7 n S))=List.drop k (A7 n S):=List.take_of_length_le (by rw [List.length_drop];omega)
  rw [ed]
  have ht:(List.take k (A7 n S)).length≤1000:=by rw [List.length_take];omega
  have hd:(List.drop k (A7 n S)).length≤1000:=by rw [List.length_drop];omega
  rw [Ae (by omega),Ae (by rw [B5];simp only [List.length_nil];omega),Ae (by rw [B5];simp only [List.length_cons,List.length_nil];omega),Ae (by omega),Ae (by rw [B5];simp only [List.length_append,List.length_cons,List.length_nil];omega)]
  rw [Asy hz hk h1 fun h=>by have h4:=h2 h;rcases h3 with h3 | h3<;>omega]
 by_cases hkl:k<(A7 n S).length
 ·rw [if_pos (by omega),Ae (by omega),Int.toNat_natCast]
  by_cases hv:nth (A7 n S) k=(z:Int)
  ·rw [if_pos hv]
   simp only [Option.bind_some]
   rw [←At1 hkl hv]
  ·rw [if_neg hv]
   exact tail (.inr hv)
 ·rw [if_neg (by omega)]
  exact tail (.inl hkl)
theorem Aqd {n:Nat} (hn:n≤LIM) (S:Nat→Bool):Ib (Ka n S)=some (A7 n S):=by
 unfold Ib
 have hn':=hn
 rw [B5] at hn'
 have hl:=Xk n S
 rw [Aki n S (fun i acc hi ha=>by
  unfold Ft
  dsimp only
  rw [if_pos (by omega),Ae (by omega),Int.toNat_natCast,Aay hi]
  by_cases hp:S i=true
  ·rw [if_pos hp,if_pos hp,Ae (by rw [B5];simp;omega),Ae (by unfold InI;omega)];rfl
  ·rw [if_neg hp,if_neg hp,Ae (by unfold InI;omega)];rfl) (fun acc=>by
  unfold Ft
  dsimp only
  rw [if_neg (by omega)])]
 rfl
end Go.Proofs.Ytmcbocbcpijgeaa.Ax
namespace Go.Proofs.Ytmcbocbcpijgeaa.Ax
open Go Classical
def Oz (a:SAlgebra):Prop:=a.Ops.length≤1048576 ∧ ∀f∈a.Ops,f.Table.length≤1048576
end Go.Proofs.Ytmcbocbcpijgeaa.Ax
namespace Go.Proofs.Ytmcbocbcpijgeaa.Ax
open Go Classical
end Go.Proofs.Ytmcbocbcpijgeaa.Ax
namespace Go.Proofs.Ytmcbocbcpijgeaa.Ax
open Go Classical
end Go.Proofs.Ytmcbocbcpijgeaa.Ax
namespace Go.Proofs.Ytmcbocbcpijgeaa.Ax
open Go Classical
def Ap9 (n:Nat) (f:SOp):Prop:=0≤f.Arity∧f.Arity≤3∧f.Table.length=n^f.Arity.toNat∧C6 f.Table n
def B8 (a:SAlgebra):Prop:=1≤a.Size∧a.Size≤8∧a.Ops.length≤4 ∧ ∀f∈a.Ops,Ap9 a.Size.toNat f
theorem Abt {n k:Nat} (hn:n≤8) (hk:k≤3):n^k≤512:=
 Nat.le_trans (Nat.pow_le_pow_left hn k) (Nat.le_trans (Nat.pow_le_pow_right (by omega) hk) (by decide))
theorem Aho {n k:Nat} (hn:n≤8) (hk:k≤3):Ct n k=some ((n^k:Nat):Int):=by
 unfold Ct
 have key:=Bq (body:=Cc n) (fun j=>(((n^j:Nat):Int),((k:Int)-(j:Int)))) k ((n^k:Nat):Int) (fun j hj=>by
  unfold Cc
  dsimp only
  have hp:=Abt hn (show j+1≤3 by omega)
  rw [Nat.pow_succ] at hp
  rw [if_pos (by omega),←Int.natCast_mul,Nat.pow_succ]
  generalize n^j*n=N at hp ⊢
  rw [Ae (by unfold InI;omega),Ae (by unfold InI;omega),show ((k:Int)-(j:Int)-1)=(k:Int)-((j+1:Nat):Int) by omega]) (by
  unfold Cc
  dsimp only
  rw [if_neg (by omega)])
 have key':Ay (Cc n) (1,(k:Int))=some ((n^k:Nat):Int):=by simpa using key
 rw [key'];rfl
theorem Aaz {n k:Nat} (hn:n≤8) (hk:k≤3):Cb n k=some ((n^k:Nat):Int):=by
 unfold Cb
 have key:=Bq (body:=Ce n) (fun j=>(((n^j:Nat):Int),((k:Int)-(j:Int)))) k ((n^k:Nat):Int) (fun j hj=>by
  unfold Ce
  dsimp only
  have hp:=Abt hn (show j+1≤3 by omega)
  rw [Nat.pow_succ] at hp
  rw [if_pos (by omega),←Int.natCast_mul,Nat.pow_succ]
  generalize n^j*n=N at hp ⊢
  rw [Ae (by unfold InI;omega),Ae (by unfold InI;omega),show ((k:Int)-(j:Int)-1)=(k:Int)-((j+1:Nat):Int) by omega]) (by
  unfold Ce
  dsimp only
  rw [if_neg (by omega)])
 have key':Ay (Ce n) (1,(k:Int))=some ((n^k:Nat):Int):=by simpa using key
 rw [key'];rfl
theorem Aqi {n:Nat} (hn:n≤8) {f:SOp} (hl:f.Table.length≤LIM):Ln f n=some (decide (Ap9 n f)):=by
 unfold Ln
 by_cases h0:0≤f.Arity
 ·rw [if_pos (show f.Arity≥0 from h0)]
  by_cases h3:f.Arity≤3
  ·have e:Ct (n:Int) f.Arity=some ((n^f.Arity.toNat:Nat):Int):=by
    have:=Aho hn (k:=f.Arity.toNat) (by omega)
    rwa [show ((f.Arity.toNat:Nat):Int)=f.Arity by omega] at this
   rw [if_pos h3,e]
   simp only [Option.bind_some]
   by_cases hL:f.Table.length=n^f.Arity.toNat
   ·rw [if_pos (by rw [hL]),Ai6 _ _ hl]
    simp only [Option.bind_some]
    congr 1
    rw [decide_eq_decide]
    exact ⟨fun h=>⟨h0,h3,hL,h⟩,fun h=>h.2.2.2⟩
   ·rw [if_neg (fun hc=>hL (Int.ofNat_inj.1 hc)),decide_eq_false (fun h=>hL h.2.2.1)]
  ·rw [if_neg h3,decide_eq_false (fun h=>h3 h.2.1)]
 ·rw [if_neg (by omega),decide_eq_false (fun h=>h0 h.1)]
theorem Ap3 {n:Nat} (hn1:1≤n) (hn:n≤8) {f:SOp} (hl:f.Table.length≤LIM):Lk n f=some (decide (Ap9 n f)):=by
 unfold Lk
 rw [Y2]
 simp only [Option.bind_some]
 by_cases h0:0≤f.Arity∧f.Arity≤3
 ·have e:Cb (n:Int) f.Arity=some ((n^f.Arity.toNat:Nat):Int):=by
   have:=Aaz hn (k:=f.Arity.toNat) (by omega)
   rwa [show ((f.Arity.toNat:Nat):Int)=f.Arity by omega] at this
  rw [decide_eq_true h0,if_pos rfl,e]
  simp only [Option.bind_some]
  by_cases hL:f.Table.length=n^f.Arity.toNat
  ·rw [if_neg (by rw [hL];simp)]
   simp only [Option.bind_some]
   have hl':=hl
   rw [B5] at hl'
   have this:=Kx (body:=E7 n f) (fun i=>(i:Int)) f.Table.length (fun i=>¬(0≤nth f.Table i∧nth f.Table i≤(n:Int)-1)) () () (fun i hi hb=>by
    unfold E7
    rw [if_pos (by omega),Ae (by omega),Ae (by unfold InI;omega),Y2]
    simp only [Int.toNat_natCast,Option.bind_some]
    rw [decide_eq_true (Classical.not_not.1 hb),if_pos rfl,Ae (by unfold InI;omega)];rfl) (fun i hi hb=>by
    unfold E7
    rw [if_pos (by omega),Ae (by omega),Ae (by unfold InI;omega),Y2]
    simp only [Int.toNat_natCast,Option.bind_some]
    rw [decide_eq_false hb,if_neg (by simp)]) (by
    unfold E7
    rw [if_neg (by omega)]) 0 (by omega)
   refine (Kk this false true).trans (congrArg some (Tt ?_))
   rw [Qj]
   constructor
   ·intro h
    refine ⟨h0.1,h0.2,hL,fun x hx=> ?_⟩
    obtain ⟨i,hi,rfl⟩:=Io.1 hx
    have:=h i hi;omega
   ·intro h i hi
    have:=h.2.2.2 _ (Bk hi);omega
  ·rw [if_pos (fun hc=>hL (Int.ofNat_inj.1 hc)),decide_eq_false (fun h=>hL h.2.2.1)];rfl
 ·rw [decide_eq_false h0,if_neg (by simp),decide_eq_false (fun h=>h0 ⟨h.1,h.2.1⟩)];rfl
theorem N9 {a:SAlgebra} (h:Oz a):Dc a=some (decide (B8 a)):=by
 unfold Dc
 by_cases h1:a.Size<1
 ·rw [if_pos h1,decide_eq_false (fun hg=>by have:=hg.1;omega)];rfl
 rw [if_neg h1]
 by_cases h8:a.Size>8
 ·rw [if_pos h8,decide_eq_false (fun hg=>by have:=hg.2.1;omega)];rfl
 rw [if_neg h8]
 by_cases h4:(a.Ops.length:Int)>4
 ·rw [if_pos h4,decide_eq_false (fun hg=>by have:=hg.2.2.1;omega)];rfl
 rw [if_neg h4]
 simp only [Option.bind_some]
 obtain ⟨n,hn⟩:=Int.eq_ofNat_of_zero_le (show 0≤a.Size by omega)
 have this:=Kx (body:=C2 a) (fun i=>(i:Int)) a.Ops.length (fun i=>¬Ap9 n (nth a.Ops i)) () () (fun i hi hb=>by
  have hl:=h.2 _ (Bk hi)
  unfold C2
  rw [if_pos (by omega),Ae (by omega),Int.toNat_natCast,hn,Aqi (by omega) (by rw [B5];omega)]
  simp only [Option.bind_some]
  rw [decide_eq_true (Classical.not_not.1 hb),if_pos rfl,Ae (by unfold InI;omega)];rfl) (fun i hi hb=>by
  have hl:=h.2 _ (Bk hi)
  unfold C2
  rw [if_pos (by omega),Ae (by omega),Int.toNat_natCast,hn,Aqi (by omega) (by rw [B5];omega)]
  simp only [Option.bind_some]
  rw [decide_eq_false hb,if_neg (by simp)]) (by
  unfold C2
  rw [if_neg (by omega)]) 0 (by omega)
 refine (Kk this false true).trans (congrArg some (Tt ?_))
 rw [Qj]
 have hnn:a.Size.toNat=n:=by omega
 constructor
 ·intro hh
  refine ⟨by omega,by omega,by omega,fun f hf=> ?_⟩
  obtain ⟨i,hi,rfl⟩:=Io.1 hf
  rw [hnn];exact hh i hi
 ·intro hg i hi
  have:=hg.2.2.2 _ (Bk hi)
  rwa [hnn] at this
theorem Nd {a:SAlgebra} (h:Oz a):Di a=some (decide (B8 a)):=by
 unfold Di
 rw [Y2]
 simp only [Option.bind_some]
 by_cases h1:1≤a.Size∧a.Size≤8
 ·rw [decide_eq_true h1,if_pos rfl]
  by_cases h4:(a.Ops.length:Int)>4
  ·rw [if_pos h4,decide_eq_false (fun hg=>by have:=hg.2.2.1;omega)];rfl
  rw [if_neg h4]
  simp only [Option.bind_some]
  obtain ⟨n,hn⟩:=Int.eq_ofNat_of_zero_le (show 0≤a.Size by omega)
  have this:=Kx (body:=D0 a) (fun i=>(i:Int)) a.Ops.length (fun i=>¬Ap9 n (nth a.Ops i)) () () (fun i hi hb=>by
   have hl:=h.2 _ (Bk hi)
   unfold D0
   rw [if_pos (by omega),Ae (by omega),Int.toNat_natCast,hn,Ap3 (by omega) (by omega) (by rw [B5];omega)]
   simp only [Option.bind_some]
   rw [decide_eq_true (Classical.not_not.1 hb),if_pos rfl,Ae (by unfold InI;omega)];rfl) (fun i hi hb=>by
   have hl:=h.2 _ (Bk hi)
   unfold D0
   rw [if_pos (by omega),Ae (by omega),Int.toNat_natCast,hn,Ap3 (by omega) (by omega) (by rw [B5];omega)]
   simp only [Option.bind_some]
   rw [decide_eq_false hb,if_neg (by simp)]) (by
   unfold D0
   rw [if_neg (by omega)]) 0 (by omega)
  refine (Kk this false true).trans (congrArg some (Tt ?_))
  rw [Qj]
  have hnn:a.Size.toNat=n:=by omega
  constructor
  ·intro hh
   refine ⟨by omega,by omega,by omega,fun f hf=> ?_⟩
   obtain ⟨i,hi,rfl⟩:=Io.1 hf
   rw [hnn];exact hh i hi
  ·intro hg i hi
   have:=hg.2.2.2 _ (Bk hi)
   rwa [hnn] at this
 ·rw [decide_eq_false h1,if_neg (by simp),decide_eq_false (fun hg=>h1 ⟨hg.1,hg.2.1⟩)];rfl
def Aim (a:SAlgebra):List Int:=a.Ops.map (·.Arity)
end Go.Proofs.Ytmcbocbcpijgeaa.Ax
namespace Go.Proofs.Ytmcbocbcpijgeaa.Ax
open Go Classical
def Gi (n:Nat):Nat→Nat→List Int
 | 0,_=>[]
 | r+1,k=>Gi n r (k/n)++[((k%n:Nat):Int)]
theorem Ll (n:Nat) : ∀r k,(Gi n r k).length=r:=by
 intro r
 induction r with
 | zero=>intro k;rfl
 | succ r ih=>intro k;simp [Gi,ih]
theorem Xi {n:Nat} (hn:0<n) : ∀r k,C6 (Gi n r k) n:=by
 intro r
 induction r with
 | zero=>intro k x hx;cases hx
 | succ r ih=>
   intro k x hx
   simp only [Gi] at hx
   rcases List.mem_append.1 hx with hx | hx
   ·exact ih _ x hx
   ·rw [List.mem_singleton.1 hx]
    have:=Nat.mod_lt k hn
    omega
theorem Am4 {n:Nat} (hn:0<n) (hn8:n≤8) : ∀(r k:Nat) (xs:List Int),r≤xs.length→xs.length≤1000→k≤1048576→Ay (D5 n) ((r:Int)-1,xs,(k:Int))=some (Gi n r k++xs.drop r):=by
 intro r
 induction r with
 | zero=>
   intro k xs _ _ _
   refine Ck ?_
   unfold D5
   dsimp only
   rw [if_neg (by omega)]
   simp [Gi]
 | succ r ih=>
   intro k xs hr hl hk
   have c1:(k:Int).tdiv (n:Int)=((k/n:Nat):Int):=rfl
   have c2:(k:Int).tmod (n:Int)=((k%n:Nat):Int):=rfl
   have hd:k/n≤k:=Nat.div_le_self k n
   have step:D5 n (((r+1:Nat):Int)-1,xs,(k:Int))=some (.inl ((r:Int)-1,xs.set r ((k%n:Nat):Int),((k/n:Nat):Int))):=by
    unfold D5
    dsimp only
    rw [show (((r+1:Nat):Int)-1)=(r:Int) by omega,c1,c2]
    generalize k/n=kd at hd
    rw [if_pos (by omega),Ae (by omega),Ae (by omega),Ae (by unfold InI;omega),Ae (by unfold InI;omega),Int.toNat_natCast]
   rw [Fk step,ih _ _ (by rw [List.length_set];omega) (by rw [List.length_set];exact hl) (by omega)]
   congr 1
   simp only [Gi]
   rw [List.append_assoc]
   congr 1
   have e:(xs.set r ((k%n:Nat):Int)).drop r=((k%n:Nat):Int)::xs.drop (r+1):=by
    refine List.ext_getElem (by simp;omega) fun i h1 h2=> ?_
    rw [List.getElem_drop,List.getElem_set]
    cases i with
    | zero=>simp
    | succ i=>
      rw [if_neg (by omega),List.getElem_cons_succ,List.getElem_drop]
      congr 1;omega
   rw [e];rfl
theorem Ajf {n r k:Nat} (hn:0<n) (hn8:n≤8) (hr:r≤3) (hk:k≤1048576):Co n r k=some (Gi n r k):=by
 unfold Co
 rw [Ae (by rw [B5];omega),Ae (by unfold InI;omega),Int.toNat_natCast,Am4 hn hn8 r k _ (by simp) (by simp;omega) hk]
 simp
theorem Ao2 {n r k:Nat} (hn:0<n) (hn8:n≤8) (hr:r≤3) (hk:k≤1048576):Cn k r n=some (Gi n r k):=by
 have:Cn (k:Int) (r:Int) (n:Int)=Co (n:Int) (r:Int) (k:Int):=rfl
 rw [this];exact Ajf hn hn8 hr hk
def Pt (m:Nat) (xs:List Int):Int:=xs.foldl (fun s x=>s*(m:Int)+x) 0
theorem Tl (m:Nat) (xs:List Int) (y:Int):Pt m (xs++[y])=Pt m xs*(m:Int)+y:=by
 unfold Pt;rw [List.foldl_append];rfl
theorem Agx {m:Nat} : ∀(r:Nat) (xs:List Int),xs.length=r→C6 xs m → ∃c:Nat,Pt m xs=(c:Int)∧c<m^r:=by
 intro r
 induction r with
 | zero=>
   intro xs hl _
   have:xs=[]:=List.length_eq_zero_iff.1 hl
   subst this
   exact ⟨0,rfl,by simp⟩
 | succ r ih=>
   intro xs hl hx
   obtain ⟨ys,y,rfl⟩ : ∃ys y,xs=ys++[y]:=by
    refine ⟨xs.take r,nth xs r,?_⟩
    rw [←Ju (by omega),List.take_of_length_le (by omega)]
   have hy:=hx y (by simp)
   obtain ⟨c,h1,h2⟩:=ih ys (by simpa using hl) fun z hz=>hx z (by simp [hz])
   obtain ⟨d,rfl⟩:=Int.eq_ofNat_of_zero_le hy.1
   refine ⟨c*m+d,by rw [Tl,h1];push_cast;rfl,?_⟩
   have h3:=Nat.mul_le_mul_right m (show c+1≤m^r from h2)
   rw [Nat.succ_mul] at h3
   rw [Nat.pow_succ]
   omega
theorem Vm {m:Nat} (hm:m≤8) {xs:List Int} (hl:xs.length≤3) (hx:C6 xs m) : ∃c:Nat,Pt m xs=(c:Int)∧c<m^xs.length∧c<512:=by
 obtain ⟨c,h1,h2⟩:=Agx xs.length xs rfl hx
 have:=Abt hm hl
 exact ⟨c,h1,h2,by omega⟩
theorem Af0 {m:Nat} {xs:List Int} {i:Nat} (hi:i<xs.length):Pt m (xs.take (i+1))=Pt m (xs.take i)*(m:Int)+nth xs i:=by
 rw [Ju hi,Tl]
theorem Ae8 {m:Nat} (hm:m≤8) {xs:List Int} (hl:xs.length≤3) (hx:C6 xs m) {i:Nat} (hi:i<xs.length) :
  InI (Pt m (xs.take i)*(m:Int))∧InI (Pt m (xs.take i)*(m:Int)+nth xs i):=by
 obtain ⟨c,h1,_,h3⟩:=Vm hm (xs:=xs.take i) (by rw [List.length_take];omega) fun z hz=>hx z (List.mem_of_mem_take hz)
 have hv:=hx _ (Bk hi)
 have h4:c*m≤512*8:=Nat.mul_le_mul (by omega) hm
 rw [h1,←Int.natCast_mul]
 generalize c*m=d at h4
 unfold InI
 omega
theorem Ar4 {b:SAlgebra} {m:Nat} (hm:m≤8) (hb:b.Size=m) {i:Nat} (hi:i<b.Ops.length) {xs:List Int} (hl:xs.length≤3) (hx:C6 xs m) (hT:(nth b.Ops i).Table.length=m^xs.length) :
  G9 b i xs=some (nth (nth b.Ops i).Table (Pt m xs).toNat):=by
 unfold G9
 have key:=Bq (body:=Dk b i xs) (fun j=>((j:Int),Pt m (xs.take j))) xs.length (Pt m xs) (fun j hj=>by
  unfold Dk
  dsimp only
  obtain ⟨h1,h2⟩:=Ae8 hm hl hx hj
  rw [hb,if_pos (by omega),Ae h1,Ae (by omega),Int.toNat_natCast,Ae h2,Ae (by unfold InI;omega),Af0 hj]
  rfl) (by
  unfold Dk
  dsimp only
  rw [if_neg (by omega),List.take_length])
 have key':Ay (Dk b i xs) (0,0)=_:=key
 rw [key']
 simp only [Option.bind_some]
 obtain ⟨c,h1,h2,_⟩:=Vm hm hl hx
 rw [Ae (by omega),Int.toNat_natCast,Ae (by rw [h1,hT];omega)]
def Arh (n m:Nat) (f:List Int):Nat→Nat→Int
 | 0,_=>0
 | r+1,k=>Arh n m f r (k/n)*(m:Int)+nth f (k%n)
theorem Aqm (n m:Nat) (f:List Int) : ∀r k,Pt m ((Gi n r k).map fun x=>nth f x.toNat)=Arh n m f r k:=by
 intro r
 induction r with
 | zero=>intro k;rfl
 | succ r ih=>
   intro k
   simp only [Gi,Arh,List.map_append,List.map_cons,List.map_nil,Int.toNat_natCast]
   rw [Tl,ih]
theorem Aoi {n m:Nat} (hn:0<n) {f:List Int} (hf:f.length=n) (hfx:C6 f m) (r k:Nat):C6 ((Gi n r k).map fun x=>nth f x.toNat) m:=by
 intro y hy
 obtain ⟨x,hx,rfl⟩:=List.mem_map.1 hy
 have:=Xi hn r k x hx
 exact hfx _ (Bk (by omega))
structure Homs (a b:SAlgebra) (f:List Int) (n m:Nat):Prop where
 ga:B8 a
 gb:B8 b
 ty:Aim a=Aim b
 sa:a.Size=n
 sb:b.Size=m
 len:f.length=n
 fin:C6 f m
section
variable {a b:SAlgebra}
variable {f:List Int} {n m:Nat}
theorem Homs.ops (h:Homs a b f n m):a.Ops.length=b.Ops.length:=by
 have:=congrArg List.length h.ty
 simpa [Aim] using this
theorem Homs.op (h:Homs a b f n m) {i:Nat} (hi:i<a.Ops.length) : ∃r:Nat,r≤3∧(nth a.Ops i).Arity=r∧(nth b.Ops i).Arity=r∧(nth a.Ops i).Table.length=n^r∧(nth b.Ops i).Table.length=m^r∧C6 (nth a.Ops i).Table n∧n^r≤512:=by
 have hn:a.Size.toNat=n:=by have:=h.sa;omega
 have hm:b.Size.toNat=m:=by have:=h.sb;omega
 have hn8:n≤8:=by have:=h.sa;have:=h.ga.2.1;omega
 obtain ⟨h1,h2,h3,h4⟩:=h.ga.2.2.2 _ (Bk hi)
 have hib:i<b.Ops.length:=by rw [←h.ops];exact hi
 obtain ⟨_,_,k3,_⟩:=h.gb.2.2.2 _ (Bk hib)
 have e:(nth a.Ops i).Arity=(nth b.Ops i).Arity:=by
  have e1:nth (Aim a) i=(nth a.Ops i).Arity:=Pw _ hi
  have e2:nth (Aim b) i=(nth b.Ops i).Arity:=Pw _ hib
  rw [←e1,←e2,h.ty]
 rw [hn] at h3 h4
 rw [hm,←e] at k3
 exact ⟨(nth a.Ops i).Arity.toNat,by omega,by omega,by omega,h3,k3,h4,Abt hn8 (by omega)⟩
theorem Homs.pos (h:Homs a b f n m):0<n∧n≤8∧0<m∧m≤8:=by
 have:=h.sa;have:=h.sb;have:=h.ga.1;have:=h.ga.2.1;have:=h.gb.1;have:=h.gb.2.1
 omega
theorem Homs.low (h:Homs a b f n m) {r k:Nat} (hr:r≤3) : ∃c:Nat,Arh n m f r k=(c:Int)∧c<m^r:=by
 obtain ⟨hn,_,_,hm⟩:=h.pos
 obtain ⟨c,h1,h2,_⟩:=Vm hm (xs:=(Gi n r k).map fun x=>nth f x.toNat) (by rw [List.length_map,Ll];exact hr) (Aoi hn h.len h.fin r k)
 rw [Aqm] at h1
 rw [List.length_map,Ll] at h2
 exact ⟨c,h1,h2⟩
end
def uniq (f:List Int):Prop := ∀i,i<f.length→nth f i∉f.take i
end Go.Proofs.Ytmcbocbcpijgeaa.Ax
namespace Go.Proofs.Ytmcbocbcpijgeaa.Ax
open Go Classical
structure Perm (f:List Int) (n:Nat):Prop where
 len:f.length=n
 fin:C6 f n
 un:uniq f
theorem Perm.count {f:List Int} {n:Nat} (h:Perm f n) : ∀i,i≤n→(A7 n fun z=>decide ((z:Int)∈f.take i)).length=i:=by
 intro i
 induction i with
 | zero=>
   intro _
   rw [List.length_eq_zero_iff]
   exact Afg.2 fun z _=>by simp
 | succ i ih=>
   intro hi
   have hil:i<f.length:=by rw [h.len];exact hi
   have hv:=h.fin _ (Bk hil)
   have hu:=h.un i hil
   have hc:nth f i=(((nth f i).toNat:Nat):Int):=by omega
   have:=Anj (q:=fun z=>decide ((z:Int)∈f.take i)) (q':=fun z=>decide ((z:Int)∈f.take (i+1))) (x:=(nth f i).toNat) (decide_eq_false (by rw [←hc];exact hu)) (fun z=>by
    rw [Ju hil,Bool.eq_iff_iff]
    simp only [decide_eq_true_eq,List.mem_append,List.mem_singleton,Bool.or_eq_true]
    constructor
    ·rintro (h1 | h1)
     ·exact .inl h1
     ·exact .inr (by omega)
    ·rintro (h1 | h1)
     ·exact .inl h1
     ·exact .inr (by omega)) n
   rw [this,ih (by omega),if_pos (by omega)]
end Go.Proofs.Ytmcbocbcpijgeaa.Ax
namespace Go.Proofs.Ytmcbocbcpijgeaa.Ax
open Go
def Cur (k:Nat) (c:Sl1Cur):Prop:=(∀x∈c.code,0≤x∧x≤255)∧c.code.length≤65536∧0≤c.at_∧c.at_≤k
theorem Cur.mono {k l:Nat} {c:Sl1Cur} (h:Cur k c) (hl:k≤l):Cur l c:=⟨h.1,h.2.1,h.2.2.1,by have:=h.2.2.2;omega⟩
theorem Apl {n:Int} (h0:0≤n) (h1:n≤255):IntKind.u64.wrap n=n:=by
 simp [IntKind.wrap,IntKind.bits,IntKind.signed]
 omega
theorem Afw {c:Sl1Cur} {k:Nat} (h:Cur k c) (hk:k≤1000000000) : ∃r d,Eg c=some (r,d)∧Cur (k+1) d∧0≤r∧r≤255:=by
 obtain ⟨h1,h2,h3,h4⟩:=h
 unfold Eg
 have fin : ∀q:Int,0≤q→q≤255 → ∃r d,(ask (InI (c.at_+1)) <|
   if c.at_+1≤(c.code.length:Int) then
    some (q,({ code:=c.code,at_:=c.at_+1,seed:=IntKind.u64.wrap (IntKind.u64.wrap (IntKind.u64.wrap (c.seed*6364136223846793005)+IntKind.u64.wrap q)+550289) }:Sl1Cur))
   else some (IntKind.i64.wrap (IntKind.u64.wrap (((BitVec.ofInt IntKind.u64.bits ((IntKind.u64.wrap (IntKind.u64.wrap (IntKind.u64.wrap (c.seed*6364136223846793005)+IntKind.u64.wrap q)+550289)).fdiv (2^min (Int.toNat 40) IntKind.u64.bits)) &&& BitVec.ofInt IntKind.u64.bits 255).toNat:Nat):Int)),
    ({ code:=c.code,at_:=c.at_+1,seed:=IntKind.u64.wrap (IntKind.u64.wrap (IntKind.u64.wrap (c.seed*6364136223846793005)+IntKind.u64.wrap q)+550289) }:Sl1Cur)))=some (r,d)∧Cur (k+1) d∧0≤r∧r≤255:=by
  intro q hq0 hq1
  rw [Ae (by unfold InI;omega)]
  split
  ·exact ⟨_,_,rfl,⟨h1,h2,by show 0≤c.at_+1;omega,by show c.at_+1≤((k+1:Nat):Int);omega⟩,hq0,hq1⟩
  ·refine ⟨_,_,rfl,⟨h1,h2,by show 0≤c.at_+1;omega,by show c.at_+1≤((k+1:Nat):Int);omega⟩,?_⟩
   generalize BitVec.ofInt IntKind.u64.bits ((IntKind.u64.wrap (IntKind.u64.wrap (IntKind.u64.wrap (c.seed*6364136223846793005)+IntKind.u64.wrap q)+550289)).fdiv (2^min (Int.toNat 40) IntKind.u64.bits))=b
   have hb:(b &&& BitVec.ofInt IntKind.u64.bits 255).toNat≤255:=by
    rw [BitVec.toNat_and]
    have:(BitVec.ofInt IntKind.u64.bits 255).toNat=255:=by decide
    rw [this]
    exact Nat.and_le_right
   generalize (b &&& BitVec.ofInt IntKind.u64.bits 255).toNat=z at hb
   rw [Apl (by omega) (by omega),Qv (by omega) (by omega)]
   omega
 by_cases hc:c.at_<(c.code.length:Int)
 ·rw [if_pos hc,Ae ⟨h3,hc⟩]
  have hm:=h1 _ (Bk (xs:=c.code) (i:=c.at_.toNat) (by omega))
  rw [Qv (by omega) (by omega)]
  simp only [Option.bind_some]
  exact fin _ hm.1 hm.2
 ·rw [if_neg hc]
  simp only [Option.bind_some]
  exact fin 0 (by omega) (by omega)
theorem Dq {c:Sl1Cur} {k:Nat} (h:Cur k c) (hk:k≤900000000) (n:Int) : ∃r d,Al c n=some (r,d)∧Cur (k+2) d∧0≤r∧(r<n∨(n≤1∧r=0)):=by
 unfold Al
 by_cases h1:n≤1
 ·rw [if_pos h1];exact ⟨0,c,rfl,h.mono (by omega),by omega,.inr ⟨h1,rfl⟩⟩
 ·rw [if_neg h1]
  obtain ⟨r,d,e,hd,a1,a2⟩:=Afw h (by omega)
  simp only [e,Option.bind_some]
  by_cases h2:n>200
  ·rw [if_pos h2,Ae (by unfold InI;omega)]
   obtain ⟨r2,d2,e2,hd2,b1,b2⟩:=Afw hd (by omega)
   simp only [e2,Option.bind_some]
   rw [Ae (by unfold InI;omega),Ae (by omega)]
   refine ⟨_,_,rfl,hd2,Int.tmod_nonneg _ (by omega),.inl ?_⟩
   exact Int.tmod_lt_of_pos _ (by omega)
  ·rw [if_neg h2,Ae (by omega)]
   refine ⟨_,_,rfl,hd.mono (by omega),Int.tmod_nonneg _ (by omega),.inl ?_⟩
   exact Int.tmod_lt_of_pos _ (by omega)
theorem Sx {c:Sl1Cur} {k:Nat} (h:Cur k c) (hk:k≤900000000) (n:Int) : ∃b d,Cf c n=some (b,d)∧Cur (k+2) d:=by
 unfold Cf
 obtain ⟨r,d,e,hd,_,_⟩:=Dq h hk n
 simp only [e,Option.bind_some]
 exact ⟨_,_,rfl,hd⟩
theorem Fy {c:Sl1Cur} {k:Nat} (h:Cur k c) (hk:k≤900000000) (l:List Int) (h0:0<l.length) : ∃r d,Aq c l=some (r,d)∧Cur (k+2) d∧r∈l:=by
 unfold Aq
 obtain ⟨r,d,e,hd,a1,a2⟩:=Dq h hk (l.length:Int)
 simp only [e,Option.bind_some]
 rw [Ae (by omega)]
 exact ⟨_,_,rfl,hd,Bk (by omega)⟩
open Classical
end Go.Proofs.Ytmcbocbcpijgeaa.Ax
namespace Go.Proofs.Ytmcbocbcpijgeaa.Ax
open Go Classical
def Ap6 (n r k:Nat) (S:Nat→Bool):Prop := ∀x∈Gi n r k,S x.toNat=true
def Asv (a:SAlgebra) (i k:Nat) (S:Nat→Bool):Prop:=Ap6 a.Size.toNat (nth a.Ops i).Arity.toNat k S
def Arc (H:List Bool):Nat:=H.count true
section
variable {a:SAlgebra}
structure ReadyA (a:SAlgebra) (n:Nat):Prop where
 good:B8 a
 sz:a.Size=(n:Int)
 pos:0<n
 le:n≤8
theorem ReadyA.nat {n:Nat} (h:ReadyA a n):a.Size.toNat=n:=by have:=h.sz;omega
theorem ReadyA.op {n:Nat} (h:ReadyA a n) {i:Nat} (hi:i<a.Ops.length) : ∃r:Nat,(nth a.Ops i).Arity=(r:Int)∧r≤3∧(nth a.Ops i).Table.length=n^r∧C6 (nth a.Ops i).Table n∧(nth a.Ops i).Table.length≤512∧(∀k S,Asv a i k S↔Ap6 n r k S):=by
 have:=h.good.2.2.2 _ (Bk hi)
 rw [h.nat] at this
 obtain ⟨h1,h2,h3,h4⟩:=this
 refine ⟨(nth a.Ops i).Arity.toNat,by omega,by omega,h3,h4,?_,fun k S=>by unfold Asv;rw [h.nat]⟩
 rw [h3];exact Abt h.le (by omega)
structure Pass (n:Nat) (G:Nat→Bool) (c0:Bool) (H0:List Bool) (c:Bool) (H:List Bool) (done:(Nat→Bool)→Prop):Prop where
 len:H.length=n
 more : ∀z,nth H0 z=true→nth H z=true
 low : ∀z,nth H z=true→G z=true
 up:c=true→c0=true∨Arc H0<Arc H
 no:c=false→c0=false∧H=H0∧done (nth H)
 mono:Arc H0≤Arc H
end
end Go.Proofs.Ytmcbocbcpijgeaa.Ax
namespace Go.Proofs.Ytmcbocbcpijgeaa.Ax
open Go Classical
theorem Qu {α β:Type} {o:Option α} {k:α→Option β} {Q:α→Prop} {R:β→Prop} (h : ∃a,o=some a∧Q a) (h2 : ∀a,Q a → ∃b,k a=some b∧R b) : ∃b,o.bind k=some b∧R b:=by
 obtain ⟨a,e,hq⟩:=h
 rw [e];exact h2 a hq
theorem At9 {β:Type} {c:Prop} [Decidable c] {x y:Option β} {R:β→Prop} (h1:c → ∃b,x=some b∧R b) (h2:¬c → ∃b,y=some b∧R b) : ∃b,(if c then x else y)=some b∧R b:=by
 split
 ·exact h1 ‹_›
 ·exact h2 ‹_›
def Og (a:SAlgebra):Prop:=a.Ops.length≤10 ∧ ∀f∈a.Ops,f.Table.length≤101
theorem N3 {a:SAlgebra} (h:Og a):Oz a:=⟨by have:=h.1;omega,fun f hf=>by have:=h.2 f hf;omega⟩
theorem Ajg (s:ByteArray) (hs:s.size≤100) : ∃f,Bc s=some f∧f.Table.length≤100:=by
 have hL:=B5
 unfold Bc
 obtain ⟨f,e,hf⟩:=Ig (body:=E1 s) (fun t => ∃j:Nat,t.1=(j:Int)∧j≤s.size∧t.2.Table.length≤j) (fun t=>s.size-t.1.toNat) (fun f=>f.Table.length≤100) (fun t ht=>by
  obtain ⟨x4,x3⟩:=t
  obtain ⟨j,g1,g2,g3⟩:=ht
  simp only at g1 g2 g3
  subst g1
  unfold E1
  dsimp only
  by_cases hj:(j:Int)<(s.size:Int)
  ·left
   rw [if_pos hj,Ae (by omega),Ae (by simp;omega),Ae (by unfold InI;omega)]
   exact ⟨_,rfl,⟨j+1,rfl,by omega,by simp;omega⟩,by simp only;omega⟩
  ·right
   rw [if_neg hj]
   exact ⟨_,rfl,by omega⟩) (s:=((0:Int),({ Arity:=2,Table:=A8 Int }:SOp))) ⟨0,rfl,Nat.zero_le _,by simp [A8]⟩
 rw [e]
 exact ⟨_,rfl,hf⟩
theorem Ai4 {n:Int} (hn:n=2∨n=3) : ∃f,Ff n=some f∧f.Table.length≤100:=by
 have hL:=B5
 unfold Ff
 obtain ⟨f,e,hf⟩:=Ig (body:=E0 n) (fun t => ∃j:Nat,t.1=(j:Int)∧j≤27∧t.2.Table.length≤j) (fun t=>27-t.1.toNat) (fun f=>f.Table.length≤100) (fun t ht=>by
  obtain ⟨x4,x3⟩:=t
  obtain ⟨j,g1,g2,g3⟩:=ht
  simp only at g1 g2 g3
  subst g1
  unfold E0
  dsimp only
  have d1 : ∀m:Int,(j:Int).tdiv m=(j:Int)/m:=fun m=>Int.tdiv_eq_ediv_of_nonneg (by omega)
  have d2 : ∀m:Int,(j:Int).tmod m=(j:Int)%m:=fun m=>Int.tmod_eq_emod_of_nonneg (by omega)
  rw [d1,d1,d2]
  rcases hn with rfl | rfl
  ·have d3:((j:Int)/2).tmod 2=((j:Int)/2)%2:=Int.tmod_eq_emod_of_nonneg (by omega)
   rw [d3]
   by_cases hj:(j:Int)<2*2*2
   ·left
    rw [Ae (by unfold InI;omega),Ae (by unfold InI;omega),if_pos hj]
    rw [Ae (by unfold InI;omega),Ae (by unfold InI;omega),Ae (by unfold InI;omega),Ae (by unfold InI;omega),Ae (by omega),Ae (by unfold InI;omega),Ae (by omega),Ae (by unfold InI;omega),Ae (by omega),Ae (by simp;omega),Ae (by unfold InI;omega)]
    exact ⟨_,rfl,⟨j+1,rfl,by omega,by simp;omega⟩,by simp only;omega⟩
   ·right
    rw [Ae (by unfold InI;omega),Ae (by unfold InI;omega),if_neg hj]
    exact ⟨_,rfl,by omega⟩
  ·have d3:((j:Int)/3).tmod 3=((j:Int)/3)%3:=Int.tmod_eq_emod_of_nonneg (by omega)
   rw [d3]
   by_cases hj:(j:Int)<3*3*3
   ·left
    rw [Ae (by unfold InI;omega),Ae (by unfold InI;omega),if_pos hj]
    rw [Ae (by unfold InI;omega),Ae (by unfold InI;omega),Ae (by unfold InI;omega),Ae (by unfold InI;omega),Ae (by omega),Ae (by unfold InI;omega),Ae (by omega),Ae (by unfold InI;omega),Ae (by omega),Ae (by simp;omega),Ae (by unfold InI;omega)]
    exact ⟨_,rfl,⟨j+1,rfl,by omega,by simp;omega⟩,by simp only;omega⟩
   ·right
    rw [Ae (by unfold InI;omega),Ae (by unfold InI;omega),if_neg hj]
    exact ⟨_,rfl,by omega⟩) (s:=((0:Int),({ Arity:=3,Table:=A8 Int }:SOp))) ⟨0,rfl,Nat.zero_le _,by simp [A8]⟩
 rw [e]
 exact ⟨_,rfl,hf⟩
theorem Ahp (k:Int) : ∃a,G6 k=some a∧Og a:=by
 have fin0 : ∀ {z:Int},Og { Size:=z,Ops:=A8 SOp }:=⟨by simp [A8],fun f hf=>by simp [A8] at hf⟩
 have fin1 : ∀ {z:Int} {f:SOp},f.Table.length≤100→Og { Size:=z,Ops:=[f] }:=fun h=>⟨by simp,fun f hf=>by simp at hf;subst hf;omega⟩
 have fin2 : ∀ {z:Int} {f g:SOp},f.Table.length≤100→g.Table.length≤100→Og { Size:=z,Ops:=[f,g] }:=fun h1 h2=>⟨by simp,fun f hf=>by
  simp only [List.mem_cons,List.not_mem_nil,or_false] at hf
  rcases hf with rfl | rfl<;>omega⟩
 have fin3 : ∀ {z:Int} {f g e:SOp},f.Table.length≤100→g.Table.length≤100→e.Table.length≤100→Og { Size:=z,Ops:=[f,g,e] }:=fun h1 h2 h3=>⟨by simp,fun f hf=>by
  simp only [List.mem_cons,List.not_mem_nil,or_false] at hf
  rcases hf with rfl | rfl | rfl<;>omega⟩
 unfold G6
 repeat' (first | refine At9 (fun _=> ?_) (fun _=> ?_) | refine Qu (Ajg _ (by decide)) fun f hf=> ?_ | refine Qu (Ai4 (by simp)) fun f hf=> ?_)
 all_goals
  first
   | exact ⟨_,rfl,fin0⟩
   | exact ⟨_,rfl,fin1 (by first | assumption | decide)⟩
   | exact ⟨_,rfl,fin2 (by first | assumption | decide) (by first | assumption | decide)⟩
   | exact ⟨_,rfl,fin3 (by first | assumption | decide) (by first | assumption | decide) (by first | assumption | decide)⟩
theorem Xr {c:Sl1Cur} {k:Nat} (h:Cur k c) (hk:k≤600000000) : ∃a d,Df c=some (a,d)∧Cur (k+1000) d∧Og a:=by
 have hL:=B5
 unfold Df
 obtain ⟨b,d,e,hd⟩:=Sx h (by omega) 4
 rw [e]
 simp only [Option.bind_some]
 by_cases hb:b=true
 ·rw [if_pos hb]
  obtain ⟨n,d2,e2,hd2,hn⟩:=Fy hd (by omega) [2,2,3,3,4] (by simp)
  rw [e2]
  simp only [Option.bind_some]
  obtain ⟨m,d3,e3,hd3,hm⟩:=Fy hd2 (by omega) [1,1,2] (by simp)
  rw [e3]
  simp only [Option.bind_some]
  obtain ⟨N,rfl,hN⟩ : ∃N:Nat,n=(N:Int)∧2≤N∧N≤4:=⟨n.toNat,by simp at hn;omega,by simp at hn;omega⟩
  obtain ⟨M,rfl,hM⟩ : ∃M:Nat,m=(M:Int)∧1≤M∧M≤2:=⟨m.toNat,by simp at hm;omega,by simp at hm;omega⟩
  obtain ⟨⟨a,d4⟩,e4,⟨ha1,ha2,ha3⟩,hd4⟩:=Ig (body:=Da (N:Int)) (fun s => ∃j:Nat,s.1=(j:Int)∧j≤M∧s.2.1.Size=(N:Int)∧s.2.1.Ops.length=M-j∧(∀f∈s.2.1.Ops,1≤f.Table.length∧f.Table.length≤64)∧Cur (k+6+200*(M-j)) s.2.2) (fun s=>s.1.toNat)
   (fun t=>(t.1.Size=(N:Int)∧t.1.Ops.length=M ∧ ∀f∈t.1.Ops,1≤f.Table.length∧f.Table.length≤64)∧Cur (k+500) t.2) (fun s hs=>by
   obtain ⟨x6,x5,x1⟩:=s
   obtain ⟨j,g1,g2,g3,g4,g5,g6⟩:=hs
   simp only at g1 g2 g3 g4 g5 g6
   subst g1
   unfold Da
   dsimp only
   by_cases hj:(j:Int)>0
   ·left
    rw [if_pos hj]
    obtain ⟨r,d5,e5,hd5,hr⟩:=Fy g6 (by omega) [0,1,2,2,3] (by simp)
    rw [e5]
    simp only [Option.bind_some]
    obtain ⟨R,rfl,hR⟩ : ∃R:Nat,r=(R:Int)∧R≤3:=⟨r.toNat,by simp at hr;omega,by simp at hr;omega⟩
    have hop : ∃f:SOp,((if (N:Int)=4 then if (R:Int)=3 then some ({ Arity:=2,Table:=A8 Int }:SOp) else some { Arity:=(R:Int),Table:=A8 Int } else some { Arity:=(R:Int),Table:=A8 Int }:Option SOp))=some f∧f.Table=[] ∧ ∃Q:Nat,f.Arity=(Q:Int)∧1≤N^Q∧N^Q≤64∧Q≤3:=by
     by_cases h4:(N:Int)=4
     ·rw [if_pos h4]
      have h4:N=4:=by omega
      subst h4
      by_cases h3:(R:Int)=3
      ·rw [if_pos h3];exact ⟨_,rfl,rfl,2,rfl,by decide⟩
      ·rw [if_neg h3]
       refine ⟨_,rfl,rfl,R,rfl,?_⟩
       have:R=0∨R=1∨R=2:=by omega
       rcases this with rfl | rfl | rfl<;>decide
     ·rw [if_neg h4]
      refine ⟨_,rfl,rfl,R,rfl,?_⟩
      have h5:N=2∨N=3:=by omega
      have:R=0∨R=1∨R=2∨R=3:=by omega
      rcases h5 with rfl | rfl<;>rcases this with rfl | rfl | rfl | rfl<;>decide
    obtain ⟨f,ef,ht,Q,hQ,q1,q2,q3⟩:=hop
    rw [ef]
    simp only [Option.bind_some]
    rw [hQ,Aaz (by omega) q3]
    simp only [Option.bind_some]
    obtain ⟨⟨f2,d6⟩,e6,hf2,hd6⟩:=Ig (body:=Dd (N:Int) (j:Int) x5) (fun s => ∃i:Nat,s.1=(i:Int)∧i≤N^Q∧s.2.1.Table.length=N^Q-i∧Cur (k+6+200*(M-j)+2+2*(N^Q-i)) s.2.2) (fun s=>s.1.toNat) (fun t=>t.1.Table.length=N^Q∧Cur (k+6+200*(M-j)+2+2*N^Q) t.2) (fun s hs=>by
     obtain ⟨x8,x7,x9⟩:=s
     obtain ⟨i,k1,k2,k3,k4⟩:=hs
     simp only at k1 k2 k3 k4
     subst k1
     unfold Dd
     dsimp only
     by_cases hi:(i:Int)>0
     ·left
      rw [if_pos hi]
      obtain ⟨v,d7,e7,hd7,_⟩:=Dq k4 (by omega) (N:Int)
      rw [e7]
      simp only [Option.bind_some]
      rw [Ae (by simp;omega),Ae (by unfold InI;omega)]
      exact ⟨_,rfl,⟨i-1,by simp only;omega,by omega,by simp;omega,hd7.mono (by omega)⟩,by simp only;omega⟩
     ·right
      rw [if_neg hi]
      exact ⟨_,rfl,by simp only;omega,k4.mono (by omega)⟩) (s:=(((N^Q:Nat):Int),f,d5)) ⟨N^Q,rfl,Nat.le_refl _,by simp [ht],hd5.mono (by omega)⟩
    rw [e6]
    simp only [Option.bind_some]
    rw [Ae (by simp;omega),Ae (by unfold InI;omega)]
    simp only at hf2 hd6
    refine ⟨_,rfl,⟨j-1,by simp only;omega,by omega,g3,by simp;omega,fun f hf=> ?_,hd6.mono (by omega)⟩,by simp only;omega⟩
    rcases List.mem_append.1 hf with h' | h'
    ·exact g5 f h'
    ·rw [List.mem_singleton.1 h'];omega
   ·right
    rw [if_neg hj]
    exact ⟨_,rfl,⟨g3,by simp only;omega,g5⟩,g6.mono (by omega)⟩) (s:=((M:Int),({ Size:=(N:Int),Ops:=A8 SOp }:SAlgebra),d3)) ⟨M,rfl,Nat.le_refl _,rfl,by simp [A8],fun f hf=>by simp [A8] at hf,hd3.mono (by omega)⟩
  rw [e4]
  simp only [Option.bind_some]
  simp only at ha1 ha2 ha3 hd4
  have h0:0<a.Ops.length:=by omega
  have hf0:=ha3 _ (Bk h0)
  have ht:Og a:=⟨by omega,fun f hf=>by have:=ha3 f hf;omega⟩
  have hset : ∀ {z:Int} {f:SOp},f.Table.length≤101→Og { Size:=z,Ops:=a.Ops.set (Int.toNat 0) f }:=fun hf=>⟨by simp;omega,fun g hg=>by
   rcases List.mem_or_eq_of_mem_set hg with h' | h'
   ·have:=ha3 g h';omega
   ·rw [h'];exact hf⟩
  obtain ⟨w,d5,e5,hd5,w0,_⟩:=Dq hd4 (by omega) 16
  rw [e5]
  simp only [Option.bind_some]
  by_cases c0:w=0
  ·rw [if_pos c0,Ae (by unfold InI;omega)]
   obtain ⟨r,d6,e6,hd6,_⟩:=Fy hd5 (by omega) [0,9,(N:Int)+1] (by simp)
   rw [e6]
   exact ⟨_,_,rfl,hd6.mono (by omega),ht⟩
  rw [if_neg c0]
  by_cases c1:w=1
  ·rw [if_pos c1,Ae (by omega),Ae (by simp only [Int.toNat_zero,List.length_singleton];omega)]
   exact ⟨_,_,rfl,hd5.mono (by omega),hset (by simp only [Int.toNat_zero,List.length_append,List.length_singleton];omega)⟩
  rw [if_neg c1]
  by_cases c2:w=2
  ·rw [if_pos c2,Ae (by omega)]
   obtain ⟨r,d6,e6,hd6,r0,r1⟩:=Dq hd5 (by omega) ((nth a.Ops (Int.toNat 0)).Table.length:Int)
   rw [e6]
   simp only [Option.bind_some]
   obtain ⟨s,d7,e7,hd7,_⟩:=Fy hd6 (by omega) [-1,(N:Int)] (by simp)
   rw [e7]
   simp only [Option.bind_some]
   simp only [Int.toNat_zero] at r1 ⊢
   rw [Ae (by omega)]
   exact ⟨_,_,rfl,hd7.mono (by omega),hset (by simp only [List.length_set];omega)⟩
  rw [if_neg c2]
  by_cases c3:w=3
  ·rw [if_pos c3]
   obtain ⟨r,d6,e6,hd6,_⟩:=Fy hd5 (by omega) [-1,4] (by simp)
   rw [e6]
   simp only [Option.bind_some]
   rw [Ae (by omega)]
   exact ⟨_,_,rfl,hd6.mono (by omega),hset (by simp only [Int.toNat_zero];omega)⟩
  rw [if_neg c3]
  by_cases c4:w=4
  ·rw [if_pos c4]
   obtain ⟨⟨a2,d6⟩,e6,ht2,hd6⟩:=Ig (body:=Db (N:Int)) (fun s=>s.1.Ops.length≤5∧(∀f∈s.1.Ops,f.Table.length≤64)∧Cur (k+502+2*s.1.Ops.length) s.2) (fun s=>5-s.1.Ops.length) (fun t=>Og t.1∧Cur (k+600) t.2) (fun s hs=>by
    obtain ⟨x5,x1⟩:=s
    obtain ⟨g1,g2,g3⟩:=hs
    simp only at g1 g2 g3
    unfold Db
    dsimp only
    obtain ⟨r,d7,e7,hd7,r0,r1⟩:=Dq g3 (by omega) 2
    rw [e7]
    simp only [Option.bind_some]
    rw [Ae (by unfold InI;omega)]
    by_cases hl:(x5.Ops.length:Int)<4+r
    ·left
     rw [if_pos hl,Ae (by omega),Ae (by simp;omega)]
     refine ⟨_,rfl,⟨by simp;omega,fun f hf=> ?_,hd7.mono (by simp;omega)⟩,by simp;omega⟩
     rcases List.mem_append.1 hf with h' | h'
     ·exact g2 f h'
     ·rw [List.mem_singleton.1 h'];simp;omega
    ·right
     rw [if_neg hl]
     exact ⟨_,rfl,⟨by simp only;omega,fun f hf=>by have:=g2 f hf;omega⟩,hd7.mono (by omega)⟩) (s:=(a,d5)) ⟨by simp only;omega,fun f hf=>(ha3 f hf).2,hd5.mono (by omega)⟩
   rw [e6]
   exact ⟨_,_,rfl,hd6.mono (by omega),ht2⟩
  rw [if_neg c4]
  exact ⟨_,_,rfl,hd5.mono (by omega),ht⟩
 ·rw [if_neg hb]
  obtain ⟨r,d2,e2,hd2,_⟩:=Dq hd (by omega) 17
  rw [e2]
  simp only [Option.bind_some]
  obtain ⟨a,e3,ht⟩:=Ahp r
  rw [e3]
  exact ⟨_,_,rfl,hd2.mono (by omega),ht⟩
theorem Amg {code:List Int} (hc : ∀x∈code,0≤x∧x≤255) (hl:code.length≤65536):Cur 0 ({ code:=code,at_:=0,seed:=0 }:Sl1Cur):=⟨hc,hl,Int.le_refl _,Int.le_refl _⟩
end Go.Proofs.Ytmcbocbcpijgeaa.Ax
namespace Go.Proofs.Ytmcbocbcpijgeaa.Ax
open Go Classical
def arT (a:SAlgebra) (x:Int):Nat:=(nth a.Ops (-1-x).toNat).Arity.toNat
def Aan (a:SAlgebra) (x:Int):Prop:=x<6 ∧ -(a.Ops.length:Int)≤x
def nxT (a:SAlgebra) (m:Nat) (x:Int):Nat:=if 0≤x then m else m+arT a x
def WF (a:SAlgebra):Nat→List Int→Prop
 | m,[]=>m=0
 | 0,_::_=>False
 | m+1,x::l=>Aan a x∧WF a (nxT a m x) l
noncomputable def T9 (a:SAlgebra):Nat→List Int→Option Nat
 | 0,_=>some 0
 | _+1,[]=>none
 | m+1,x::l=>if Aan a x then (T9 a (nxT a m x) l).map (· + 1) else none
section
variable {a:SAlgebra}
theorem WF.nil {m:Nat}:WF a m []↔m=0:=by cases m<;>simp [WF]
theorem WF.zero {l:List Int} (h:WF a 0 l):l=[]:=by cases l with
 | nil=>rfl
 | cons x r=>cases h
theorem WF.cons {m:Nat} {x:Int} {l:List Int} (h:WF a m (x::l)) : ∃k,m=k+1∧Aan a x∧WF a (nxT a k x) l:=by
 cases m with
 | zero=>cases h
 | succ k=>exact ⟨k,rfl,h⟩
theorem Amz : ∀ {l:List Int} {m k:Nat},T9 a m l=some k→k≤l.length∧WF a m (l.take k)
 | [],m,k,h=>by
   cases m with
   | zero=>cases h;exact ⟨Nat.le_refl _,rfl⟩
   | succ m=>cases h
 | x::l,0,k,h=>by cases h;exact ⟨Nat.zero_le _,rfl⟩
 | x::l,m+1,k,h=>by
   simp only [T9] at h
   split at h
   ·rename_i hs
    obtain ⟨j,h1,rfl⟩:=Option.map_eq_some_iff.1 h
    obtain ⟨h2,h3⟩:=Amz h1
    exact ⟨by simp;omega,hs,h3⟩
   ·cases h
theorem Ag6 : ∀ {p:List Int} {m:Nat} (q:List Int),WF a m p→T9 a m (p++q)=some p.length
 | [],m,q,h=>by
   rw [WF.nil.1 h]
   cases q<;>rfl
 | x::p,0,q,h=>by cases h
 | x::p,m+1,q,h=>by
   simp only [List.cons_append,T9]
   rw [if_pos h.1,Ag6 q h.2]
   rfl
theorem WF.one : ∀ {l:List Int} {m k:Nat},WF a m l→WF a k l→m=k
 | [],m,k,h,h2=>(WF.nil.1 h).trans (WF.nil.1 h2).symm
 | x::l,m,k,h,h2=>by
   obtain ⟨m',rfl,_,h3⟩:=h.cons
   obtain ⟨k',rfl,_,h4⟩:=h2.cons
   have:=WF.one h3 h4
   unfold nxT at this
   split at this<;>omega
theorem WF.split : ∀ {l:List Int} (m:Nat) {k:Nat},WF a (m+k) l → ∃p q,l=p++q∧WF a m p∧WF a k q
 | [],m,k,h=>by
   have:=WF.nil.1 h
   exact ⟨[],[],rfl,WF.nil.2 (by omega),WF.nil.2 (by omega)⟩
 | x::l,0,k,h=>⟨[],x::l,rfl,rfl,by simpa using h⟩
 | x::l,m+1,k,h=>by
   have e:m+1+k=(m+k)+1:=by omega
   rw [e] at h
   have e2:nxT a (m+k) x=nxT a m x+k:=by unfold nxT;split<;>omega
   have h2:=h.2
   rw [e2] at h2
   obtain ⟨p,q,rfl,h3,h4⟩:=WF.split (nxT a m x) h2
   exact ⟨x::p,q,rfl,⟨h.1,h3⟩,h4⟩
theorem WF.suffix : ∀ {l:List Int} {m:Nat} (i:Nat),WF a m l → ∃k,WF a k (l.drop i)
 | l,m,0,h=>⟨m,h⟩
 | [],m,i+1,h=>⟨0,rfl⟩
 | x::l,m,i+1,h=>by
   obtain ⟨k,rfl,_,h2⟩:=h.cons
   exact WF.suffix i h2
theorem WF.sym : ∀ {l:List Int} {m:Nat},WF a m l → ∀x∈l,Aan a x
 | [],_,_,x,hx=>by cases hx
 | y::l,m,h,x,hx=>by
   obtain ⟨k,rfl,hs,h2⟩:=h.cons
   rcases List.mem_cons.1 hx with rfl | hx
   ·exact hs
   ·exact WF.sym h2 x hx
theorem WF.pos {l:List Int} {m:Nat} (h:WF a (m+1) l):0<l.length:=by
 cases l with
 | nil=>exact absurd (WF.nil.1 h) (by omega)
 | cons x r=>simp
theorem Alo : ∀ {l:List Int} {m:Nat},WF a m l→m≤l.length
 | [],m,h=>by rw [WF.nil.1 h];exact Nat.le_refl _
 | x::l,m,h=>by
   obtain ⟨k,rfl,_,h2⟩:=h.cons
   have:=Alo h2
   unfold nxT at this
   simp only [List.length_cons]
   split at this<;>omega
def Iz {β:Type} (a:SAlgebra) (v:Int→β) (f:Int→List β→β):List Int→List β→List β
 | [],st=>st
 | x::l,st=>if 0≤x then v x::Iz a v f l st else f x ((Iz a v f l st).take (arT a x))::(Iz a v f l st).drop (arT a x)
section
variable {β:Type} {v:Int→β} {f:Int→List β→β}
theorem Je : ∀(p q:List Int) (st:List β),Iz a v f (p++q) st=Iz a v f p (Iz a v f q st)
 | [],_,_=>rfl
 | x::p,q,st=>by simp only [List.cons_append,Iz,Je p q st]
theorem Abj : ∀ {l:List Int} {m:Nat},WF a m l → ∃vs:List β,vs.length=m ∧ ∀st,Iz a v f l st=vs++st
 | [],m,h=>⟨[],(WF.nil.1 h).symm,fun _=>rfl⟩
 | x::l,m,h=>by
   obtain ⟨k,rfl,_,h2⟩:=h.cons
   obtain ⟨ws,h3,h4⟩:=Abj h2
   by_cases hx:0≤x
   ·refine ⟨v x::ws,by simp [h3,nxT,hx],fun st=> ?_⟩
    simp only [Iz,if_pos hx,h4,List.cons_append]
   ·have hl:ws.length=k+arT a x:=by rw [h3];simp [nxT,hx]
    refine ⟨f x (ws.take (arT a x))::ws.drop (arT a x),by simp;omega,fun st=> ?_⟩
    simp only [Iz,if_neg hx,h4]
    rw [List.take_append_of_le_length (by omega),List.drop_append_of_le_length (by omega)]
    rfl
def Ajx [Inhabited β] (a:SAlgebra) (v:Int→β) (f:Int→List β→β) (t:List Int):β:=nth (Iz a v f t []) 0
theorem Ae7 [Inhabited β] {t:List Int} (h:WF a 1 t) (st:List β):Iz a v f t st=Ajx a v f t::st:=by
 obtain ⟨vs,h1,h2⟩:=Abj (v:=v) (f:=f) h
 obtain ⟨w,rfl⟩:=List.length_eq_one_iff.1 h1
 unfold Ajx
 rw [h2,h2]
 rfl
theorem Pj {l:List Int} {m:Nat} (h:WF a m l):(Iz a v f l []).length=m:=by
 obtain ⟨vs,h1,h2⟩:=Abj (v:=v) (f:=f) h
 rw [h2];simpa using h1
end
theorem Zm {β:Type} {v w:Int→β} {f:Int→List β→β} : ∀ {l:List Int},(∀x∈l,0≤x→v x=w x) → ∀st,Iz a v f l st=Iz a w f l st
 | [],_,_=>rfl
 | x::l,h,st=>by
   simp only [Iz]
   rw [Zm (fun y hy=>h y (List.mem_cons_of_mem _ hy)) st]
   by_cases hx:0≤x
   ·rw [if_pos hx,if_pos hx,h x List.mem_cons_self hx]
   ·rw [if_neg hx,if_neg hx]
noncomputable def endA (a:SAlgebra) (t:List Int) (i:Nat):Int:=match T9 a 1 (t.drop i) with
 | some k=>((i+k:Nat):Int)
 | none=> -1
theorem Ab9 {m:Nat} (h:m≤10):IntKind.i64.wrap (0-(m:Int)) = -(m:Int):=by
 rw [Qv (by omega) (by omega)];omega
theorem B8.op (hg:B8 a) {x:Int} (h1:x<0) (h2 : -(a.Ops.length:Int)≤x):(-1-x).toNat<a.Ops.length∧(nth a.Ops (-1-x).toNat).Arity=(arT a x:Int)∧arT a x≤3∧(nth a.Ops (-1-x).toNat).Table.length=a.Size.toNat^arT a x∧C6 (nth a.Ops (-1-x).toNat).Table a.Size.toNat:=by
 have hi:(-1-x).toNat<a.Ops.length:=by omega
 obtain ⟨o1,o2,o3,o4⟩:=hg.2.2.2 _ (Bk hi)
 unfold arT
 refine ⟨hi,by omega,by omega,o3,?_⟩
 exact o4
theorem Alh (hg:B8 a) {t:List Int} (hl:t.length≤1000) : ∀(k i m:Nat),i+k=t.length→m+3*k≤100000 →
  Ay (B7 a t) ((m:Int),(i:Int))=some (match T9 a m (t.drop i) with | some e=> .inr ((i+e:Nat):Int) | none=> .inl ()):=by
 have h4:=hg.2.2.1
 intro k
 induction k with
 | zero=>
   intro i m hi hm
   have ed:t.drop i=[]:=List.drop_eq_nil_of_le (by omega)
   rw [ed]
   refine Ck ?_
   unfold B7
   dsimp only
   cases m with
   | zero=>rw [if_neg (by omega)];rfl
   | succ m=>rw [if_pos (by omega),if_pos (by omega)];rfl
 | succ k ih=>
   intro i m hi hm
   have hlt:i<t.length:=by omega
   rw [Tn hlt]
   cases m with
   | zero=>
     refine Ck ?_
     unfold B7
     dsimp only
     rw [if_neg (by omega)];rfl
   | succ m=>
     generalize hx:nth t i=x
     simp only [T9]
     have hb:((if x≥6 then
       some true
       else
       some (decide (x<IntKind.i64.wrap (0-(a.Ops.length:Int)))):Option Bool))=some (decide (¬Aan a x)):=by
      rw [Ab9 (by omega)]
      by_cases c:x≥6
      ·have hn:¬Aan a x:=fun hh=>by have:=hh.1;omega
       rw [if_pos c,decide_eq_true hn]
      ·rw [if_neg c]
       congr 1
       rw [decide_eq_decide]
       unfold Aan
       omega
     by_cases hs:Aan a x
     ·rw [if_pos hs]
      by_cases h0:0≤x
      ·have step:B7 a t (((m+1:Nat):Int),(i:Int))=some (.inl ((m:Int),((i+1:Nat):Int))):=by
        unfold B7
        dsimp only
        rw [if_pos (by omega),if_neg (by omega),Ae (by omega),Int.toNat_natCast,hx,hb]
        simp only [Option.bind_some]
        rw [decide_eq_false (fun hh=>hh hs),if_neg (by simp),if_pos h0,Ae (by unfold InI;omega),Ae (by unfold InI;omega)]
        congr 3;omega
       rw [Fk step,ih (i+1) m (by omega) (by omega),nxT,if_pos h0]
       cases T9 a m (t.drop (i+1)) with
       | none=>rfl
       | some e=>simp only [Option.map_some];congr 3;omega
      ·obtain ⟨o1,o2,o3,_,_⟩:=hg.op (x:=x) (by omega) hs.2
       have step:B7 a t (((m+1:Nat):Int),(i:Int))=some (.inl (((m+arT a x:Nat):Int),((i+1:Nat):Int))):=by
        unfold B7
        dsimp only
        rw [if_pos (by omega),if_neg (by omega),Ae (by omega),Int.toNat_natCast,hx,hb]
        simp only [Option.bind_some]
        rw [decide_eq_false (fun hh=>hh hs),if_neg (by simp),if_neg (by omega),Ae (by unfold InI;omega),Ae (by omega),o2,Ae (by unfold InI;omega),Ae (by unfold InI;omega),Ae (by unfold InI;omega)]
        congr 3;omega
       rw [Fk step,ih (i+1) (m+arT a x) (by omega) (by omega),nxT,if_neg h0]
       cases T9 a (m+arT a x) (t.drop (i+1)) with
       | none=>rfl
       | some e=>simp only [Option.map_some];congr 3;omega
     ·rw [if_neg hs]
      refine Ck ?_
      unfold B7
      dsimp only
      rw [if_pos (by omega),if_neg (by omega),Ae (by omega),Int.toNat_natCast,hx,hb]
      simp only [Option.bind_some]
      rw [decide_eq_true hs,if_pos rfl]
theorem Ar1 (hg:B8 a) {t:List Int} (hl:t.length≤1000) {i:Nat} (hi:i≤t.length):Hi a t i=some (endA a t i):=by
 unfold Hi endA
 have:=Alh hg hl (t.length-i) i 1 (by omega) (by omega)
 have e:Ay (B7 a t) (1,(i:Int))=_:=this
 rw [e]
 cases T9 a 1 (t.drop i)<;>rfl
theorem Akj (hg:B8 a) {t:List Int} (hl:t.length≤1000) : ∀(k i m:Nat),i+k=t.length→m+3*k≤100000 →
  ∃r,Ay (Bt a t) ((i:Int),((m+1:Nat):Int))=some r∧(match r with | .inl q=>q | .inr _=> -1)=(match T9 a (m+1) (t.drop i) with | some e=>((i+e:Nat):Int) | none=> -1):=by
 have h4:=hg.2.2.1
 intro k
 induction k with
 | zero=>
   intro i m hi hm
   have ed:t.drop i=[]:=List.drop_eq_nil_of_le (by omega)
   rw [ed]
   refine ⟨.inr (),Ck ?_,rfl⟩
   unfold Bt
   dsimp only
   rw [if_neg (by omega)]
 | succ k ih=>
   intro i m hi hm
   have hlt:i<t.length:=by omega
   rw [Tn hlt]
   generalize hx:nth t i=x
   simp only [T9]
   by_cases h0:0≤x
   ·have nx:nxT a m x=m:=by unfold nxT;rw [if_pos h0]
    by_cases hs:x≥6
    ·rw [if_neg (fun hh:Aan a x=>by have:=hh.1;omega)]
     refine ⟨.inl (-1),Ck ?_,rfl⟩
     unfold Bt
     dsimp only
     rw [if_pos (by omega),Ae (by unfold InI;omega),Ae (by omega),Int.toNat_natCast,hx,if_neg (by omega),Ae (by omega),if_pos hs]
    ·rw [if_pos (show Aan a x from ⟨by omega,by omega⟩),nx]
     cases m with
     | zero=>
       refine ⟨.inl ((i+1:Nat):Int),Ck ?_,by cases t.drop (i+1)<;>rfl⟩
       unfold Bt
       dsimp only
       rw [if_pos (by omega),Ae (by unfold InI;omega),Ae (by omega),Int.toNat_natCast,hx,if_neg (by omega),Ae (by omega),if_neg hs,if_pos (by omega),Ae (by unfold InI;omega)]
       rfl
     | succ m=>
       obtain ⟨r,e1,e2⟩:=ih (i+1) m (by omega) (by omega)
       refine ⟨r,?_,?_⟩
       ·have step:Bt a t ((i:Int),((m+1+1:Nat):Int))=some (.inl (((i+1:Nat):Int),((m+1:Nat):Int))):=by
         unfold Bt
         dsimp only
         rw [if_pos (by omega),Ae (by unfold InI;omega),Ae (by omega),Int.toNat_natCast,hx,if_neg (by omega),Ae (by omega),if_neg hs,if_neg (by omega),Ae (by unfold InI;omega)]
         congr 3
         omega
        rw [Fk step];exact e1
       ·rw [e2]
        cases T9 a (m+1) (t.drop (i+1)) with
        | none=>rfl
        | some e=>
          show ((i+1+e:Nat):Int)=((i+(e+1):Nat):Int)
          omega
   ·by_cases hs : -(a.Ops.length:Int)≤x
    ·have hsy:Aan a x:=⟨by omega,hs⟩
     obtain ⟨o1,o2,o3,_,_⟩:=hg.op (x:=x) (by omega) hs
     have nx:nxT a m x=m+arT a x:=by unfold nxT;rw [if_neg h0]
     have hin:Ds x (IntKind.i64.wrap (0-(a.Ops.length:Int))) (-1)=some true:=by
      rw [Ab9 (by omega),Y2]
      simp;omega
     rw [if_pos hsy,nx]
     by_cases hz:m+arT a x=0
     ·rw [hz]
      refine ⟨.inl ((i+1:Nat):Int),Ck ?_,by cases t.drop (i+1)<;>rfl⟩
      unfold Bt
      dsimp only
      rw [if_pos (by omega),Ae (by unfold InI;omega),Ae (by omega),Int.toNat_natCast,hx,if_pos (by omega),Ae (by omega),hin]
      simp only [Option.bind_some,if_true]
      rw [Ae (by omega),Ae (by unfold InI;omega),Ae (by omega),o2,Ae (by unfold InI;omega),if_pos (by omega),Ae (by unfold InI;omega)]
      rfl
     ·obtain ⟨m',hm'⟩ : ∃m',m+arT a x=m'+1:=⟨m+arT a x-1,by omega⟩
      rw [hm']
      obtain ⟨r,e1,e2⟩:=ih (i+1) m' (by omega) (by omega)
      refine ⟨r,?_,?_⟩
      ·have step:Bt a t ((i:Int),((m+1:Nat):Int))=some (.inl (((i+1:Nat):Int),((m'+1:Nat):Int))):=by
        unfold Bt
        dsimp only
        rw [if_pos (by omega),Ae (by unfold InI;omega),Ae (by omega),Int.toNat_natCast,hx,if_pos (by omega),Ae (by omega),hin]
        simp only [Option.bind_some,if_true]
        rw [Ae (by omega),Ae (by unfold InI;omega),Ae (by omega),o2,Ae (by unfold InI;omega),if_neg (by omega),Ae (by unfold InI;omega)]
        congr 3
        omega
       rw [Fk step];exact e1
      ·rw [e2]
       cases T9 a (m'+1) (t.drop (i+1)) with
       | none=>rfl
       | some e=>
         show ((i+1+e:Nat):Int)=((i+(e+1):Nat):Int)
         omega
    ·rw [if_neg (fun hh:Aan a x=>hs hh.2)]
     have hin:Ds x (IntKind.i64.wrap (0-(a.Ops.length:Int))) (-1)=some false:=by
      rw [Ab9 (by omega),Y2]
      simp;omega
     refine ⟨.inl (-1),Ck ?_,rfl⟩
     unfold Bt
     dsimp only
     rw [if_pos (by omega),Ae (by unfold InI;omega),Ae (by omega),Int.toNat_natCast,hx,if_pos (by omega),Ae (by omega),hin]
     simp only [Option.bind_some,Bool.false_eq_true,if_false]
theorem Asg (hg:B8 a) {t:List Int} (hl:t.length≤1000) {i:Nat} (hi:i≤t.length):Hc a t i=some (endA a t i):=by
 unfold Hc endA
 obtain ⟨r,e1,e2⟩:=Akj hg hl (t.length-i) i 0 (by omega) (by omega)
 have e:Ay (Bt a t) ((i:Int),1)=_:=e1
 rw [e]
 simp only [Nat.zero_add] at e2
 rw [←e2]
 cases r<;>rfl
def isT (a:SAlgebra) (t:List Int):Prop:=t.length≤60∧WF a 1 t
theorem Aib {t:List Int}:endA a t 0=(t.length:Int)↔WF a 1 t:=by
 unfold endA
 rw [List.drop_zero]
 constructor
 ·intro h
  cases he:T9 a 1 t with
  | none=>rw [he] at h;simp only at h;omega
  | some k=>
    rw [he] at h
    simp only at h
    have:=(Amz he).2
    rwa [List.take_of_length_le (by omega)] at this
 ·intro h
  have:=Ag6 [] h
  rw [List.append_nil] at this
  rw [this];simp
theorem Ab7 (hg:B8 a) {t:List Int}:Fm a t=some (decide (isT a t)):=by
 unfold Fm
 by_cases hl:t.length≤60
 ·have:=Ar1 hg (t:=t) (by omega) (i:=0) (by omega)
  have e:Hi a t 0=_:=this
  rw [if_pos (by omega),e]
  simp only [Option.bind_some]
  congr 1
  rw [Bool.eq_iff_iff,beq_iff_eq,Aib,decide_eq_true_eq]
  exact ⟨fun h=>⟨hl,h⟩,fun h=>h.2⟩
 ·rw [if_neg (by omega),decide_eq_false (fun h=>hl h.1)]
theorem Adn (hg:B8 a) {t:List Int}:Fj a t=some (decide (isT a t)):=by
 unfold Fj
 by_cases h0:t.length>0
 ·rw [if_pos (by omega)]
  by_cases hl:t.length≤60
  ·have:=Asg hg (t:=t) (by omega) (i:=0) (by omega)
   have e:Hc a t 0=_:=this
   rw [if_pos (by omega),e]
   simp only [Option.bind_some]
   congr 1
   rw [Bool.eq_iff_iff,beq_iff_eq,Aib,decide_eq_true_eq]
   exact ⟨fun h=>⟨hl,h⟩,fun h=>h.2⟩
  ·rw [if_neg (by omega),decide_eq_false (fun h=>hl h.1)]
 ·rw [if_neg (by omega),decide_eq_false (fun h=>h0 h.2.pos)]
theorem Aih (hs:Oz a) {t:List Int}:Ga a t=some (decide (B8 a∧isT a t)):=by
 unfold Ga
 rw [N9 hs]
 simp only [Option.bind_some]
 by_cases hg:B8 a
 ·rw [decide_eq_true hg,if_pos rfl,Ab7 hg]
  simp only [Option.bind_some]
  congr 1
  rw [decide_eq_decide]
  exact ⟨fun h=>⟨hg,h⟩,fun h=>h.2⟩
 ·rw [decide_eq_false hg,if_neg (by simp),decide_eq_false (fun h=>hg h.1)]
theorem Ank (hs:Oz a) {t:List Int}:Gw a t=some (decide (B8 a∧isT a t)):=by
 unfold Gw
 rw [Nd hs]
 simp only [Option.bind_some]
 by_cases hg:B8 a
 ·rw [decide_eq_true hg,if_pos rfl,Adn hg]
  simp only [Option.bind_some]
  congr 1
  rw [decide_eq_decide]
  exact ⟨fun h=>⟨hg,h⟩,fun h=>h.2⟩
 ·rw [decide_eq_false hg,if_neg (by simp),decide_eq_false (fun h=>hg h.1)]
end
end Go.Proofs.Ytmcbocbcpijgeaa.Ax
namespace Go.Proofs.Ytmcbocbcpijgeaa.Ax
open Go Classical
section
variable {a:SAlgebra}
noncomputable def opV (a:SAlgebra) (x:Int) (args:List Int):Int:=nth (nth a.Ops (-1-x).toNat).Table (Pt a.Size.toNat args).toNat
noncomputable def stk (a:SAlgebra) (vs:List Int) (l:List Int):List Int:=Iz a (fun x=>nth vs x.toNat) (opV a) l []
noncomputable def Hm (a:SAlgebra) (vs t:List Int):Int:=Ajx a (fun x=>nth vs x.toNat) (opV a) t
theorem Aa2 {n:Nat} {args:List Int} (hx:C6 args n) : ∃c:Nat,Pt n args=(c:Int)∧c<n^args.length:=Agx args.length args rfl hx
theorem Atd (hg:B8 a) {x:Int} (h1:x<0) (h2 : -(a.Ops.length:Int)≤x) {args:List Int} (hl:args.length=arT a x) (hx:C6 args a.Size.toNat):0≤opV a x args∧opV a x args<a.Size.toNat:=by
 obtain ⟨o1,o2,o3,o4,o5⟩:=hg.op h1 h2
 obtain ⟨c,e,hc⟩:=Aa2 hx
 unfold opV
 rw [e,Int.toNat_natCast]
 rw [hl,←o4] at hc
 exact o5 _ (Bk hc)
theorem Ab3 (hg:B8 a) {vs:List Int} : ∀ {l:List Int} {m:Nat},WF a m l→(∀x∈l,0≤x→x<(vs.length:Int))→C6 vs a.Size.toNat→C6 (stk a vs l) a.Size.toNat
 | [],_,_,_,_=>fun z hz=>by cases hz
 | x::l,m,h,hv,hs=>by
   obtain ⟨k,rfl,hsy,h2⟩:=h.cons
   have ih:=Ab3 hg h2 (fun y hy=>hv y (List.mem_cons_of_mem _ hy)) hs
   have hl:=Pj (v:=fun x=>nth vs x.toNat) (f:=opV a) h2
   unfold stk at ih ⊢
   simp only [Iz]
   by_cases h0:0≤x
   ·rw [if_pos h0]
    intro z hz
    rcases List.mem_cons.1 hz with rfl | hz
    ·have:=hv x List.mem_cons_self h0
     exact hs _ (Bk (by omega))
    ·exact ih z hz
   ·rw [if_neg h0]
    have hn:nxT a k x=k+arT a x:=by unfold nxT;rw [if_neg h0]
    intro z hz
    rcases List.mem_cons.1 hz with rfl | hz
    ·exact Atd hg (by omega) hsy.2 (by rw [List.length_take];omega) fun y hy=>ih y (List.mem_of_mem_take hy)
    ·exact ih z (List.mem_of_mem_drop hz)
theorem Zk {st:List Int} {k:Nat} (hk:k<st.length):nth st.reverse (st.length-1-k)=nth st k:=by
 rw [D2 (by simp;omega),D2 hk,List.getElem_reverse]
 congr 1
 omega
theorem Aku (hg:B8 a) {t vs:List Int} {i:Nat} {x:Int} (hx:nth t i=x) (h0:x<0) (h1 : -(a.Ops.length:Int)≤x) {st:List Int} (hl:arT a x≤st.length) (hin:C6 st a.Size.toNat) (hlen:st.length≤1000) :
  Ay (E2 a t vs (i:Int) st.reverse) (0,0)=some (Pt a.Size.toNat (st.take (arT a x))):=by
 obtain ⟨o1,o2,o3,o4,o5⟩:=hg.op h0 h1
 have hz:a.Size=((a.Size.toNat:Nat):Int):=by have:=hg.1;omega
 have h8:a.Size.toNat≤8:=by have:=hg.2.1;omega
 have hlt:(st.take (arT a x)).length=arT a x:=by rw [List.length_take];omega
 have hta:C6 (st.take (arT a x)) a.Size.toNat:=fun y hy=>hin y (List.mem_of_mem_take hy)
 have hrl:st.reverse.length=st.length:=List.length_reverse
 have key:=Bq (body:=E2 a t vs (i:Int) st.reverse) (fun j=>((j:Int),Pt a.Size.toNat ((st.take (arT a x)).take j))) (arT a x) (Pt a.Size.toNat (st.take (arT a x))) (fun j hj=>by
  obtain ⟨g1,g2⟩:=Ae8 h8 (xs:=st.take (arT a x)) (by omega) hta (i:=j) (by omega)
  have hjl:j<(st.take (arT a x)).length:=by omega
  have en:nth st.reverse (((st.length:Nat):Int)-1-(j:Int)).toNat=nth (st.take (arT a x)) j:=by
   have e1:(((st.length:Nat):Int)-1-(j:Int)).toNat=st.length-1-j:=by omega
   rw [e1,Zk (by omega),D2 (by omega),D2 hjl,List.getElem_take]
  unfold E2
  dsimp only
  rw [Int.toNat_natCast,hx,o2,if_pos (by omega),hz,Int.toNat_natCast,Ae g1,hrl,Ae (by unfold InI;omega),Ae (by unfold InI;omega),Ae (by omega),en,Ae g2,Ae (by unfold InI;omega),Af0 hjl]
  rfl) (by
  unfold E2
  dsimp only
  rw [Int.toNat_natCast,hx,o2,if_neg (by omega),List.take_of_length_le (by omega)])
 exact key
theorem Y5 (hg:B8 a) {t vs:List Int} (ht:isT a t) (hv : ∀x∈t,0≤x→x<(vs.length:Int)) (hs:C6 vs a.Size.toNat):Et a t vs=some (Hm a vs t):=by
 have hL:=B5
 have hl:=ht.1
 have hpos:=ht.2.pos
 have h8:a.Size.toNat≤8:=by have:=hg.2.1;omega
 have h4:=hg.2.2.1
 unfold Et
 rw [Ae (by omega),Ae (by unfold InI;omega)]
 have hk : ∀i,i≤t.length → ∃k,WF a k (t.drop i)∧(stk a vs (t.drop i)).length=k∧C6 (stk a vs (t.drop i)) a.Size.toNat∧k≤t.length-i:=fun i hi=>by
  obtain ⟨k,h1⟩:=ht.2.suffix i
  refine ⟨k,h1,Pj h1,Ab3 hg h1 (fun x hx=>hv x (List.mem_of_mem_drop hx)) hs,?_⟩
  have:=Alo h1
  simpa using this
 have key:=Bq (body:=Fr a t vs) (fun j=>(((t.length:Nat):Int)-1-(j:Int),(stk a vs (t.drop (t.length-j))).reverse)) t.length ((stk a vs t).reverse) (fun j hj=>by
  obtain ⟨i,hi⟩ : ∃i,i+1+j=t.length:=⟨t.length-1-j,by omega⟩
  have e1:t.length-j=i+1:=by omega
  have e2:t.length-(j+1)=i:=by omega
  have e3:((t.length:Nat):Int)-1-(j:Int)=(i:Int):=by omega
  have e4:((t.length:Nat):Int)-1-((j+1:Nat):Int)=(i:Int)-1:=by omega
  have hil:i<t.length:=by omega
  obtain ⟨k,w1,w2,w3,w4⟩:=hk (i+1) (by omega)
  obtain ⟨k',w1',w2',_,_⟩:=hk i (by omega)
  have hmem:=Bk hil
  rw [e1,e2,e3,e4]
  rw [Tn hil] at w1' w2' ⊢
  generalize hx:nth t i=x at *
  obtain ⟨m,rfl,hsy,w5⟩:=w1'.cons
  have hm:=WF.one w5 w1
  have hst:stk a vs (x::t.drop (i+1))=if 0≤x then nth vs x.toNat::stk a vs (t.drop (i+1)) else opV a x ((stk a vs (t.drop (i+1))).take (arT a x))::(stk a vs (t.drop (i+1))).drop (arT a x):=rfl
  rw [hst]
  generalize stk a vs (t.drop (i+1))=st at w2 w3 ⊢
  have hrl:st.reverse.length=st.length:=List.length_reverse
  unfold Fr
  dsimp only
  rw [if_pos (by omega),Ae (by omega),Int.toNat_natCast,hx]
  by_cases h0:0≤x
  ·have hxv:=hv x hmem h0
   rw [if_pos h0,if_pos h0,Ae (by omega),Ae (by simp;omega),Ae (by unfold InI;omega),List.reverse_cons]
  ·have hn:nxT a m x=m+arT a x:=by unfold nxT;rw [if_neg h0]
   obtain ⟨o1,o2,o3,o4,o5⟩:=hg.op (x:=x) (by omega) hsy.2
   obtain ⟨c,ec,hc⟩:=Aa2 (n:=a.Size.toNat) (args:=st.take (arT a x)) fun y hy=>w3 y (List.mem_of_mem_take hy)
   have htl:(st.take (arT a x)).length=arT a x:=by rw [List.length_take];omega
   rw [htl,←o4] at hc
   rw [if_neg h0,if_neg h0,Ae (by unfold InI;omega),Ae (by omega),Aku hg hx (by omega) hsy.2 (by omega) w3 (by omega)]
   simp only [Option.bind_some]
   have et:List.take ((((st.length:Nat):Int)-(arT a x:Int)).toNat-Int.toNat 0) (List.drop (Int.toNat 0) st.reverse)=(st.drop (arT a x)).reverse:=by
    have e5:(((st.length:Nat):Int)-(arT a x:Int)).toNat-Int.toNat 0=st.length-arT a x:=by simp
    rw [e5,List.reverse_drop]
    rfl
   rw [ec,Ae (by omega),hrl,o2,Ae (by unfold InI;omega),Ae (by omega),et,Ae (by simp;omega),Ae (by unfold InI;omega),List.reverse_cons]
   unfold opV
   rw [ec]) (by
  unfold Fr
  dsimp only
  rw [if_neg (by omega),Nat.sub_self,List.drop_zero])
 have e0:(((t.length:Nat):Int)-1,A8 Int)=(((t.length:Nat):Int)-1-((0:Nat):Int),(stk a vs (t.drop (t.length-0))).reverse):=by
  rw [Nat.sub_zero,List.drop_eq_nil_of_le (Nat.le_refl _)]
  simp [stk,Iz,A8]
 rw [e0,key]
 simp only [Option.bind_some]
 have h1:(stk a vs t).length=1:=Pj ht.2
 rw [Ae (by simp;omega)]
 congr 1
 obtain ⟨w,hw⟩:=List.length_eq_one_iff.1 h1
 unfold Hm Ajx
 show nth (stk a vs t).reverse 0=nth (stk a vs t) 0
 rw [hw];rfl
theorem Zw {t:List Int} (hl:t.length≤1000) (n:Nat):D4 t n=some (decide (∀x∈t,x<(n:Int))):=by
 unfold D4
 have:=Kx (body:=C1 t n) (fun i=>(i:Int)) t.length (fun i=>¬nth t i<(n:Int)) () () (fun i hi hb=>by
  unfold C1
  have hb:=Classical.not_not.1 hb
  rw [if_pos (by omega),Ae (by omega),Int.toNat_natCast,if_neg (by omega),Ae (by unfold InI;omega)];rfl) (fun i hi hb=>by
  unfold C1
  rw [if_pos (by omega),Ae (by omega),Int.toNat_natCast,if_pos (by omega)]) (by
  unfold C1
  rw [if_neg (by omega)]) 0 (by omega)
 refine (Kk this false true).trans (congrArg some (Tt ?_))
 rw [Qj]
 constructor
 ·intro h x hx;obtain ⟨i,hi,rfl⟩:=Io.1 hx;exact h i hi
 ·intro h i hi;exact h _ (Bk hi)
theorem Xx (hsm:Oz a) (hg:B8 a) {t vs:List Int} (ht:isT a t) (hl:vs.length≤6) (hs:C6 vs a.Size.toNat) (hv : ∀x∈t,x<(vs.length:Int)):Fd a t vs=some (Hm a vs t,true):=by
 have hL:=B5
 have hz:a.Size=((a.Size.toNat:Nat):Int):=by have:=hg.1;omega
 unfold Fd
 rw [Aih hsm,decide_eq_true (show B8 a∧isT a t from ⟨hg,ht⟩)]
 simp only [Option.bind_some,if_true]
 rw [if_neg (by omega),hz,Ai6 _ _ (by omega),decide_eq_true hs]
 simp only [Option.bind_some,if_true]
 rw [Zw (by have:=ht.1;omega),decide_eq_true hv]
 simp only [Option.bind_some,if_true]
 rw [Y5 hg ht (fun x hx _=>hv x hx) hs]
 rfl
theorem To {t:List Int} (ht:isT a t) : ∀x∈t,x<((6:Nat):Int):=fun x hx=>(ht.2.sym x hx).1
end
end Go.Proofs.Ytmcbocbcpijgeaa.Ax
namespace Go.Proofs.Ytmcbocbcpijgeaa.Ax
open Go Classical
theorem Alj {xs:List Int} (h:xs.length≤LIM):F6 xs=some xs:=by
 unfold F6
 rw [Ae (by show 0+xs.length≤_;omega)];rfl
section
variable {a:SAlgebra}
structure Place (a:SAlgebra) (t:List Int) (i:Nat) (p q:List Int) (k:Nat):Prop where
 eq:t.drop i=p++q
 one:WF a 1 p
 rest:WF a k q
 lt:i<t.length
 all:WF a (k+1) (p++q)
theorem Place.len {t p q:List Int} {i k:Nat} (h:Place a t i p q k):i+(p.length+q.length)=t.length∧0<p.length:=by
 have:=congrArg List.length h.eq
 have h2:=h.lt
 simp at this
 exact ⟨by omega,h.one.pos⟩
theorem Place.whole {t p q:List Int} {i k:Nat} (h:Place a t i p q k):t=t.take i++(p++q):=by rw [←h.eq,List.take_append_drop]
theorem Place.endA {t p q:List Int} {i k:Nat} (h:Place a t i p q k):endA a t i=((i+p.length:Nat):Int):=by
 unfold Ax.endA
 rw [h.eq,Ag6 q h.one]
theorem Place.value {t p q by' vs:List Int} {i k:Nat} (h:Place a t i p q k) (hb:WF a 1 by') (hv:Hm a vs p=Hm a vs by'):Hm a vs t=Hm a vs (t.take i++(by'++q)):=by
 conv=>lhs;rw [h.whole]
 unfold Hm Ajx at hv ⊢
 rw [Je,Je,Je (t.take i),Je by' q,Ae7 h.one,Ae7 hb]
 unfold Ajx
 rw [hv]
theorem App {α:Type} {f:Nat→Option α} (h : ∀n,LeO (f n) (f (n+1))):upO f:=by
 intro n m v hnm e
 obtain ⟨k,rfl⟩ : ∃k,m=n+k:=⟨m-n,by omega⟩
 clear hnm
 induction k with
 | zero=>exact e
 | succ k ih=>exact h (n+k) v ih
theorem Aql {t:List Int} (hl:t.length≤1000) (ht : ∀x∈t,x<((6:Nat):Int)):H9 t=some (A7 6 fun z=>decide ((z:Int)∈t)):=by
 unfold H9
 have key:=Bq (body:=Ev t) (fun j=>((j:Int),A7 6 fun z=>decide ((z:Int)∈t.take j))) t.length (A7 6 fun z=>decide ((z:Int)∈t)) (fun j hj=>by
  have hx:=ht _ (Bk hj)
  unfold Ev
  dsimp only
  rw [if_pos (by omega),Ae (by omega),Int.toNat_natCast]
  by_cases h0:nth t j≥0
  ·have ex:nth t j=(((nth t j).toNat:Nat):Int):=by omega
   have hput:=Ari (n:=6) (by omega) (fun z=>decide ((z:Int)∈t.take j)) (z:=(nth t j).toNat) (by omega)
   rw [←ex] at hput
   rw [if_pos h0,Ae (by omega),hput]
   simp only [Option.bind_some]
   rw [Ae (by unfold InI;omega)]
   congr 3
   refine Oo fun z _=> ?_
   rw [Ju hj,decide_eq_decide,List.mem_append,List.mem_singleton,decide_eq_true_eq]
   constructor
   ·rintro (hh | hh)
    ·exact .inl hh
    ·right;omega
   ·rintro (hh | hh)
    ·exact .inl hh
    ·right;omega
  ·rw [if_neg h0,Ae (by unfold InI;omega)]
   congr 3
   refine Oo fun z _=> ?_
   rw [Ju hj,decide_eq_decide,List.mem_append,List.mem_singleton]
   exact ⟨.inl,fun hh=>hh.resolve_right (by omega)⟩) (by
  unfold Ev
  dsimp only
  rw [if_neg (by omega),List.take_length])
 have e0:((0:Int),A8 Int)=(((0:Nat):Int),A7 6 fun z=>decide ((z:Int)∈t.take 0)):=by
  have:(A7 6 fun z=>decide ((z:Int)∈t.take 0))=[]:=Afg.2 fun i _=>by simp
  rw [this];rfl
 rw [e0,key];rfl
end
end Go.Proofs.Ytmcbocbcpijgeaa.Ax
namespace Go.Proofs.Ytmcbocbcpijgeaa.Ax
open Go Classical
theorem Aj4 {s1 s2:Sl1Cur→SAlgebra→Int→Int→Option (List Int×Sl1Cur)} (h : ∀c b d v,LeO (s1 c b d v) (s2 c b d v)) (c:Sl1Cur) (b:SAlgebra) (d v:Int):LeO (B6 s1 c b d v) (B6 s2 c b d v):=by
 unfold B6
 refine LeO.bind (LeO.refl _) fun q=>LeO.bind (LeO.refl _) fun t=> ?_
 cases t with
 | inl p=>exact LeO.refl _
 | inr e=>
   refine LeO.bind (LeO.refl _) fun r=>LeO.ask (LeO.bind (LeO.loop (fun s=> ?_) _) fun _=>LeO.refl _)
   obtain ⟨x,y,z⟩:=s
   unfold Cr
   dsimp only
   exact LeO.ask (LeO.ite (LeO.ask (LeO.bind (h _ _ _ _) fun _=>LeO.refl _)) (LeO.refl _))
theorem Aol (c:Sl1Cur) (b:SAlgebra) (d v:Int):upO fun n=>A6 n c b d v:=by
 have step : ∀n c b d v,LeO (A6 n c b d v) (A6 (n+1) c b d v):=by
  intro n
  induction n with
  | zero=>intro c b d v w e;cases e
  | succ n ih=>intro c b d v;exact Aj4 ih c b d v
 exact App fun n=>step n c b d v
def bB:Nat→Nat
 | 0=>10
 | d+1=>10+3*bB d
def bL:Nat→Nat
 | 0=>1
 | d+1=>1+3*bL d
theorem Ass {d:Nat} (h:d≤3):bB d≤400∧10≤bB d∧bL d≤40∧1≤bL d:=by
 have:d=0∨d=1∨d=2∨d=3:=by omega
 rcases this with rfl | rfl | rfl | rfl<;>decide
section
variable {a:SAlgebra}
theorem Ail (hg:B8 a) : ∀(d:Nat),d≤3 → ∀ {c:Sl1Cur} {k:Nat},Cur k c→k+1000*d≤500000000 → ∀ {v:Int},0≤v →
  ∃p:List Int×Sl1Cur,A6 (d+1) c a (d:Int) v=some p∧(Cur (k+bB d) p.2∧1≤p.1.length∧p.1.length≤bL d):=by
 have hL:=B5
 have h4:=hg.2.2.1
 intro d
 induction d using Nat.strongRecOn with
 | ind d ih=>
   intro hd c k h hk v hv
   obtain ⟨b1,b2,b3,b4⟩:=Ass hd
   show ∃p,B6 (A6 d) c a (d:Int) v=some p∧_
   unfold B6
   refine Qu (Q:=fun q:List Int=>q.length≤4) ?_ fun q hq=> ?_
   ·exact Ig (body:=Dj c a (d:Int) v) (fun s => ∃j:Nat,s.1=(j:Int)∧j≤a.Ops.length∧s.2.length≤j) (fun s=>a.Ops.length-s.1.toNat) (fun q=>q.length≤4) (fun s hs=>by
     obtain ⟨x10,x9⟩:=s
     obtain ⟨j,g1,g2,g3⟩:=hs
     simp only at g1 g3
     subst g1
     unfold Dj
     dsimp only
     by_cases hlt:j<a.Ops.length
     ·left
      rw [if_pos (by omega),Ae (by omega)]
      by_cases h0:(nth a.Ops ((j:Int)).toNat).Arity=0
      ·rw [if_pos h0,Ae (by unfold InI;omega),Ae (by simp;omega),Ae (by unfold InI;omega)]
       exact ⟨_,rfl,⟨j+1,rfl,hlt,by simp;omega⟩,by simp only;omega⟩
      ·rw [if_neg h0,Ae (by unfold InI;omega)]
       exact ⟨_,rfl,⟨j+1,rfl,hlt,by simp only;omega⟩,by simp only;omega⟩
     ·right
      rw [if_neg (by omega)]
      exact ⟨_,rfl,by omega⟩) (s:=((0:Int),A8 Int)) ⟨0,rfl,Nat.zero_le _,by simp [A8]⟩
   refine Qu (Q:=fun t:(List Int×Sl1Cur) ⊕ Sl1Cur=>match t with
    | .inl p=>Cur (k+8) p.2∧p.1.length=1
    | .inr e=>Cur (k+8) e∧d≠0∧a.Ops.length≠0) ?_ ?_
   ·refine Qu (Q:=fun p:Bool×Sl1Cur=>Cur (k+2) p.2∧(p.1=false→d≠0∧a.Ops.length≠0)) ?_ ?_
    ·by_cases h0:(d:Int)=0
     ·rw [if_pos h0]
      exact ⟨_,rfl,h.mono (by omega),fun hh=>by cases hh⟩
     ·rw [if_neg h0]
      by_cases h1:(a.Ops.length:Int)=0
      ·rw [if_pos h1]
       exact ⟨_,rfl,h.mono (by omega),fun hh=>by cases hh⟩
      ·rw [if_neg h1]
       obtain ⟨b,e,e1,he⟩:=Sx h (by omega) 4
       rw [e1]
       exact ⟨_,rfl,he,fun _=>⟨by omega,by omega⟩⟩
    ·rintro ⟨b,e⟩ ⟨he,hf⟩
     dsimp only at he hf ⊢
     by_cases hb:b=true
     ·rw [if_pos hb]
      refine Qu (Q:=fun p:Bool×Sl1Cur=>Cur (k+4) p.2) ?_ ?_
      ·by_cases h0:v=0
       ·rw [if_pos h0];exact ⟨_,rfl,he.mono (by omega)⟩
       ·rw [if_neg h0]
        by_cases h1:(q.length:Int)>0
        ·rw [if_pos h1]
         obtain ⟨b',e',e1,he'⟩:=Sx he (by omega) 4
         rw [e1]
         exact ⟨_,rfl,he'⟩
        ·rw [if_neg h1];exact ⟨_,rfl,he.mono (by omega)⟩
      ·rintro ⟨b',e'⟩ he'
       dsimp only at he' ⊢
       by_cases hb':b'=true
       ·rw [if_pos hb']
        by_cases h0:(q.length:Int)=0
        ·rw [if_pos h0];exact ⟨_,rfl,he'.mono (by omega),rfl⟩
        ·rw [if_neg h0]
         obtain ⟨r,e2,e1,he2,_⟩:=Fy he' (by omega) q (by omega)
         rw [e1]
         exact ⟨_,rfl,he2.mono (by omega),rfl⟩
       ·rw [if_neg hb']
        obtain ⟨r,e2,e1,he2,_⟩:=Dq he' (by omega) v
        rw [e1]
        exact ⟨_,rfl,he2.mono (by omega),rfl⟩
     ·rw [if_neg hb]
      obtain ⟨k1,k2⟩:=hf (by simpa using hb)
      exact ⟨_,rfl,he.mono (by omega),k1,k2⟩
   ·rintro (⟨r,e⟩ | e) ht
    ·obtain ⟨k1,k2⟩:=ht
     dsimp only at k1 k2 ⊢
     exact ⟨_,rfl,k1.mono (by omega),by simp only;omega,by simp only;omega⟩
    ·obtain ⟨k1,k2,k3⟩:=ht
     dsimp only at k1 ⊢
     obtain ⟨d',rfl⟩ : ∃d',d=d'+1:=⟨d-1,by omega⟩
     obtain ⟨r,e2,e1,he2,r0,r1⟩:=Dq k1 (by omega) (a.Ops.length:Int)
     rw [e1]
     simp only [Option.bind_some]
     have hri:r.toNat<a.Ops.length:=by omega
     obtain ⟨o1,o2,_,_⟩:=hg.2.2.2 _ (Bk hri)
     rw [Ae (by unfold InI;omega)]
     have eB:bB (d'+1)=10+3*bB d':=rfl
     have eL:bL (d'+1)=1+3*bL d':=rfl
     refine Qu (Q:=fun p:List Int×Sl1Cur=>Cur (k+bB (d'+1)) p.2∧1≤p.1.length∧p.1.length≤bL (d'+1)) ?_ ?_
     ·exact Ig (body:=Cr (A6 (d'+1)) a ((d'+1:Nat):Int) v r) (fun s => ∃j:Nat,s.1=(j:Int)∧j≤3∧1≤s.2.1.length∧s.2.1.length≤1+j*bL d'∧Cur (k+10+j*bB d') s.2.2) (fun s=>3-s.1.toNat)
       (fun p=>Cur (k+bB (d'+1)) p.2∧1≤p.1.length∧p.1.length≤bL (d'+1)) (fun s hs=>by
       obtain ⟨x13,x12,x96⟩:=s
       obtain ⟨j,g1,g2,g3,g4,g5⟩:=hs
       simp only at g1 g3 g4 g5
       subst g1
       have hj1:j*bL d'≤3*bL d':=Nat.mul_le_mul_right _ g2
       have hj2:j*bB d'≤3*bB d':=Nat.mul_le_mul_right _ g2
       unfold Cr
       dsimp only
       rw [Ae (by omega)]
       by_cases hlt:(j:Int)<(nth a.Ops r.toNat).Arity
       ·left
        obtain ⟨⟨r32,u33⟩,e3,p1,p2,p3⟩:=ih d' (by omega) (by omega) g5 (by omega) hv
        have e4:(((d'+1:Nat):Int)-1)=(d':Int):=by omega
        rw [if_pos hlt,Ae (by unfold InI;omega),e4,e3]
        simp only [Option.bind_some]
        simp only at p1 p2 p3
        rw [Ae (by omega),Ae (by unfold InI;omega)]
        refine ⟨_,rfl,⟨j+1,rfl,by omega,by simp;omega,?_,?_⟩,by simp only;omega⟩
        ·rw [Nat.succ_mul];simp;omega
        ·rw [Nat.succ_mul];exact p1.mono (by omega)
       ·right
        rw [if_neg hlt]
        exact ⟨_,rfl,g5.mono (by omega),g3,by simp only;omega⟩) (s:=((0:Int),[-1-r],e2)) ⟨0,rfl,by omega,by simp,by simp,he2.mono (by omega)⟩
     ·rintro ⟨x,y⟩ hxy
      exact ⟨_,rfl,hxy⟩
end
theorem Afn {c:Sl1Cur} {k:Nat} (h:Cur k c) (hk:k≤400000000) {a:SAlgebra} (ha:Og a) : ∃xs d,B4 c a=some (xs,d)∧Cur (k+600) d∧xs.length≤41:=by
 have hL:=B5
 unfold B4
 rw [Nd (N3 ha)]
 simp only [Option.bind_some]
 by_cases hg:B8 a
 ·have h4:=hg.2.2.1
  rw [decide_eq_true hg,if_pos rfl]
  obtain ⟨r3,u4,e1,hd1,a1,a2⟩:=Dq h (by omega) 3
  rw [e1]
  simp only [Option.bind_some]
  rw [Ae (by unfold InI;omega)]
  obtain ⟨r6,u7,e2,hd2,hm⟩:=Fy hd1 (by omega) [1,2,3,3,6] (by simp)
  rw [e2]
  simp only [Option.bind_some]
  obtain ⟨dd,hdd,hdd3⟩ : ∃dd:Nat,1+r3=(dd:Int)∧dd≤3:=⟨(1+r3).toNat,by omega,by omega⟩
  obtain ⟨⟨r8,u9⟩,e3,k1,k2,k3⟩:=Ail hg dd hdd3 hd2 (by omega) (v:=r6) (by simp at hm;omega)
  obtain ⟨b1,b2,b3,b4⟩:=Ass hdd3
  simp only at k1 k2 k3
  have e4:(Aak fun n=>A6 n u7 a (1+r3) r6)=some (r8,u9):=by
   rw [hdd];exact Asa (Aol u7 a _ r6) e3
  rw [e4]
  simp only [Option.bind_some]
  obtain ⟨r39,u40,e5,hd5,_⟩:=Dq k1 (by omega) 32
  rw [e5]
  simp only [Option.bind_some]
  by_cases c0:r39=0
  ·rw [if_pos c0,Ae (by simp;omega)]
   exact ⟨_,_,rfl,hd5.mono (by omega),by simp;omega⟩
  ·rw [if_neg c0]
   by_cases c1:r39=1
   ·rw [if_pos c1]
    obtain ⟨r43,u44,e6,hd6,q1,q2⟩:=Dq hd5 (by omega) (r8.length:Int)
    rw [e6]
    simp only [Option.bind_some]
    rw [Ae (by unfold InI;omega)]
    obtain ⟨r46,u47,e7,hd7,_⟩:=Fy hd6 (by omega) [-1-(a.Ops.length:Int),6, -9223372036854775808,9223372036854775807] (by simp)
    rw [e7]
    simp only [Option.bind_some]
    rw [Ae (by omega)]
    exact ⟨_,_,rfl,hd7.mono (by omega),by simp;omega⟩
   ·rw [if_neg c1]
    by_cases c2:r39=2
    ·rw [if_pos c2,Ae (by omega)]
     exact ⟨_,_,rfl,hd5.mono (by omega),by simp;omega⟩
    ·rw [if_neg c2]
     exact ⟨_,_,rfl,hd5.mono (by omega),by omega⟩
 ·rw [decide_eq_false hg,if_neg (by simp)]
  exact ⟨_,_,rfl,h.mono (by omega),by simp⟩
theorem Ar9 {xs:List Int} (h:xs.length≤LIM):F5 xs xs=some true:=by
 have hL:=B5
 unfold F5
 rw [if_neg (by simp)]
 have:=Bq (body:=Cd xs xs) (fun i=>(i:Int)) xs.length (.inr ()) (fun i hi=>by
  unfold Cd
  rw [if_pos (by omega)]
  repeat rw [Ae (by first | omega | (unfold InI;omega))]
  rw [if_neg (by simp)]
  repeat rw [Ae (by first | omega | (unfold InI;omega))]
  rfl) (by
  unfold Cd
  rw [if_neg (by omega)])
 have h0:Ay (Cd xs xs) 0=some (.inr ()):=this
 rw [h0];rfl
end Go.Proofs.Ytmcbocbcpijgeaa.Ax
namespace Go.Proofs.Ytmcbocbcpijgeaa.Ax
open Go Classical
theorem Afv {n:Nat} (hn:0<n) : ∀r (xs:List Int),xs.length=r→C6 xs n→Gi n r (Pt n xs).toNat=xs:=by
 intro r
 induction r with
 | zero=>intro xs hl _;rw [List.length_eq_zero_iff.1 hl];rfl
 | succ r ih=>
   intro xs hl hx
   obtain ⟨ys,y,rfl⟩ : ∃ys y,xs=ys++[y]:=⟨xs.take r,nth xs r,by rw [←Ju (by omega),List.take_of_length_le (by omega)]⟩
   have hy:=hx y (by simp)
   have hys:C6 ys n:=fun z hz=>hx z (by simp [hz])
   have hyl:ys.length=r:=by simpa using hl
   obtain ⟨c,h1,_⟩:=Agx r ys hyl hys
   obtain ⟨d,rfl⟩:=Int.eq_ofNat_of_zero_le hy.1
   have hd:d<n:=by omega
   have e:(Pt n (ys++[(d:Int)])).toNat=c*n+d:=by
    rw [Tl,h1,←Int.natCast_mul,←Int.natCast_add,Int.toNat_natCast]
   rw [e]
   simp only [Gi]
   rw [show (c*n+d)/n=c by rw [Nat.mul_comm,Nat.mul_add_div hn,Nat.div_eq_of_lt hd];omega,show (c*n+d)%n=d by rw [Nat.mul_comm,Nat.mul_add_mod,Nat.mod_eq_of_lt hd]]
   have:=ih ys hyl hys
   rw [h1,Int.toNat_natCast] at this
   rw [this]
theorem Aor {n k:Nat} (B:Nat) (hB:B≤1000000) (h : ∀i,i≤k→n^i≤B) (hk:k≤1000):Ct n k=some ((n^k:Nat):Int):=by
 unfold Ct
 have key:=Bq (body:=Cc n) (fun j=>(((n^j:Nat):Int),((k:Int)-(j:Int)))) k ((n^k:Nat):Int) (fun j hj=>by
  unfold Cc
  dsimp only
  have hp:=h (j+1) (by omega)
  rw [Nat.pow_succ] at hp
  rw [if_pos (by omega),←Int.natCast_mul,Nat.pow_succ]
  generalize n^j*n=N at hp ⊢
  rw [Ae (by unfold InI;omega),Ae (by unfold InI;omega),show ((k:Int)-(j:Int)-1)=(k:Int)-((j+1:Nat):Int) by omega]) (by
  unfold Cc
  dsimp only
  rw [if_neg (by omega)])
 have key':Ay (Cc n) (1,(k:Int))=some ((n^k:Nat):Int):=by simpa using key
 rw [key'];rfl
theorem Aiu {n k:Nat} (B:Nat) (hB:B≤1000000) (h : ∀i,i≤k→n^i≤B) (hk:k≤1000):Cb n k=some ((n^k:Nat):Int):=by
 unfold Cb
 have key:=Bq (body:=Ce n) (fun j=>(((n^j:Nat):Int),((k:Int)-(j:Int)))) k ((n^k:Nat):Int) (fun j hj=>by
  unfold Ce
  dsimp only
  have hp:=h (j+1) (by omega)
  rw [Nat.pow_succ] at hp
  rw [if_pos (by omega),←Int.natCast_mul,Nat.pow_succ]
  generalize n^j*n=N at hp ⊢
  rw [Ae (by unfold InI;omega),Ae (by unfold InI;omega),show ((k:Int)-(j:Int)-1)=(k:Int)-((j+1:Nat):Int) by omega]) (by
  unfold Ce
  dsimp only
  rw [if_neg (by omega)])
 have key':Ay (Ce n) (1,(k:Int))=some ((n^k:Nat):Int):=by simpa using key
 rw [key'];rfl
theorem Afa {n r k:Nat} (hn:0<n) (hn8:n≤8) (hr:r≤100) (hk:k≤1048576):Co n r k=some (Gi n r k):=by
 unfold Co
 rw [Ae (by rw [B5];omega),Ae (by unfold InI;omega),Int.toNat_natCast,Am4 hn hn8 r k _ (by simp) (by simp;omega) hk]
 simp
theorem Af2 {n r k:Nat} (hn:0<n) (hn8:n≤8) (hr:r≤100) (hk:k≤1048576):Cn k r n=some (Gi n r k):=by
 have:Cn (k:Int) (r:Int) (n:Int)=Co (n:Int) (r:Int) (k:Int):=rfl
 rw [this];exact Afa hn hn8 hr hk
end Go.Proofs.Ytmcbocbcpijgeaa.Ax
namespace Go.Proofs.Ytmcbocbcpijgeaa.Ax
open Go Classical
section
variable {a:SAlgebra}
theorem Ag8 {t vs:List Int} {i:Nat} {x:Int} (hg:B8 a) (hx:nth t i=x) (h0:x<0) (h1 : -(a.Ops.length:Int)≤x) {st:List Int} (hl:arT a x≤st.length) (hlen:st.length≤1000) :
  Ay (Dn a t vs (i:Int) st.reverse) (0,A8 Int)=some (st.take (arT a x)):=by
 have hL:=B5
 obtain ⟨o1,o2,o3,o4,o5⟩:=hg.op h0 h1
 have hrl:st.reverse.length=st.length:=List.length_reverse
 have key:=Bq (body:=Dn a t vs (i:Int) st.reverse) (fun j=>((j:Int),st.take j)) (arT a x) (st.take (arT a x)) (fun j hj=>by
  have en:nth st.reverse (((st.length:Nat):Int)-1-(j:Int)).toNat=nth st j:=by
   have e1:(((st.length:Nat):Int)-1-(j:Int)).toNat=st.length-1-j:=by omega
   rw [e1,Zk (by omega)]
  unfold Dn
  dsimp only
  rw [Int.toNat_natCast,hx,Ae (by omega),o2,if_pos (by omega),hrl,Ae (by unfold InI;omega),Ae (by unfold InI;omega),Ae (by omega),en,Ae (by simp;omega),Ae (by unfold InI;omega),Ju (by omega)]
  rfl) (by
  unfold Dn
  dsimp only
  rw [Int.toNat_natCast,hx,Ae (by omega),o2,if_neg (by omega)])
 exact key
theorem X1 (hg:B8 a) {t vs:List Int} (ht:isT a t) (hv : ∀x∈t,0≤x→x<(vs.length:Int)) (hs:C6 vs a.Size.toNat):E3 a t vs=some (Hm a vs t):=by
 have hL:=B5
 have hl:=ht.1
 have hpos:=ht.2.pos
 have h8:a.Size.toNat≤8:=by have:=hg.2.1;omega
 have hz:a.Size=((a.Size.toNat:Nat):Int):=by have:=hg.1;omega
 have h4:=hg.2.2.1
 unfold E3
 rw [Ae (by unfold InI;omega)]
 have hk : ∀i,i≤t.length → ∃k,WF a k (t.drop i)∧(stk a vs (t.drop i)).length=k∧C6 (stk a vs (t.drop i)) a.Size.toNat∧k≤t.length-i:=fun i hi=>by
  obtain ⟨k,h1⟩:=ht.2.suffix i
  refine ⟨k,h1,Pj h1,Ab3 hg h1 (fun x hx=>hv x (List.mem_of_mem_drop hx)) hs,?_⟩
  have:=Alo h1
  simpa using this
 have key:=Bq (body:=Eh a t vs) (fun j=>(((t.length:Nat):Int)-1-(j:Int),(stk a vs (t.drop (t.length-j))).reverse)) t.length ((stk a vs t).reverse) (fun j hj=>by
  obtain ⟨i,hi⟩ : ∃i,i+1+j=t.length:=⟨t.length-1-j,by omega⟩
  have e1:t.length-j=i+1:=by omega
  have e2:t.length-(j+1)=i:=by omega
  have e3:((t.length:Nat):Int)-1-(j:Int)=(i:Int):=by omega
  have e4:((t.length:Nat):Int)-1-((j+1:Nat):Int)=(i:Int)-1:=by omega
  have hil:i<t.length:=by omega
  obtain ⟨k,w1,w2,w3,w4⟩:=hk (i+1) (by omega)
  obtain ⟨k',w1',w2',_,_⟩:=hk i (by omega)
  have hmem:=Bk hil
  rw [e1,e2,e3,e4]
  rw [Tn hil] at w1' w2' ⊢
  generalize hx:nth t i=x at *
  obtain ⟨m,rfl,hsy,w5⟩:=w1'.cons
  have hm:=WF.one w5 w1
  have hst:stk a vs (x::t.drop (i+1))=if 0≤x then nth vs x.toNat::stk a vs (t.drop (i+1)) else opV a x ((stk a vs (t.drop (i+1))).take (arT a x))::(stk a vs (t.drop (i+1))).drop (arT a x):=rfl
  rw [hst]
  generalize stk a vs (t.drop (i+1))=st at w2 w3 ⊢
  have hrl:st.reverse.length=st.length:=List.length_reverse
  unfold Eh
  dsimp only
  rw [if_pos (by omega),Ae (by omega),Int.toNat_natCast,hx]
  by_cases h0:0≤x
  ·have hxv:=hv x hmem h0
   rw [if_pos h0,if_pos h0,Ae (by omega),Ae (by omega),Ae (by simp;omega),Ae (by unfold InI;omega),List.reverse_cons]
  ·have hn:nxT a m x=m+arT a x:=by unfold nxT;rw [if_neg h0]
   obtain ⟨o1,o2,o3,o4,o5⟩:=hg.op (x:=x) (by omega) hsy.2
   have htl:(st.take (arT a x)).length=arT a x:=by rw [List.length_take];omega
   rw [if_neg h0,if_neg h0,Ae (by omega),Ae (by unfold InI;omega),Ag8 hg hx (by omega) hsy.2 (by omega) (by omega)]
   simp only [Option.bind_some]
   have et:List.take ((((st.length:Nat):Int)-(arT a x:Int)).toNat-Int.toNat 0) (List.drop (Int.toNat 0) st.reverse)=(st.drop (arT a x)).reverse:=by
    have e5:(((st.length:Nat):Int)-(arT a x:Int)).toNat-Int.toNat 0=st.length-arT a x:=by simp
    rw [e5,List.reverse_drop]
    rfl
   have ei : -1-x=(((-1-x).toNat:Nat):Int):=by omega
   have hval:=Ar4 (b:=a) h8 hz (i:=(-1-x).toNat) o1 (xs:=st.take (arT a x)) (by omega) (fun y hy=>w3 y (List.mem_of_mem_take hy)) (by rw [o4,htl])
   rw [←ei] at hval
   rw [htl,hrl,Ae (by unfold InI;omega),Ae (by omega),et,Alj (by simp;omega)]
   simp only [Option.bind_some]
   rw [hval]
   simp only [Option.bind_some]
   rw [Ae (by simp;omega),Ae (by unfold InI;omega),List.reverse_cons]
   rfl) (by
  unfold Eh
  dsimp only
  rw [if_neg (by omega),Nat.sub_self,List.drop_zero])
 have e0:(((t.length:Nat):Int)-1,A8 Int)=(((t.length:Nat):Int)-1-((0:Nat):Int),(stk a vs (t.drop (t.length-0))).reverse):=by
  rw [Nat.sub_zero,List.drop_eq_nil_of_le (Nat.le_refl _)]
  simp [stk,Iz,A8]
 rw [e0,key]
 simp only [Option.bind_some]
 have h1:(stk a vs t).length=1:=Pj ht.2
 rw [Ae (by simp;omega)]
 congr 1
 obtain ⟨w,hw⟩:=List.length_eq_one_iff.1 h1
 unfold Hm Ajx
 show nth (stk a vs t).reverse 0=nth (stk a vs t) 0
 rw [hw];rfl
theorem Aqf {t:List Int} (hl:t.length≤1000) (n:Nat):Gc t n=some (decide (∀x∈t,x<(n:Int))):=by
 unfold Gc
 have:=Kx (body:=Dz t n) (fun i=>(i:Int)) t.length (fun i=>¬nth t i<(n:Int)) () () (fun i hi hb=>by
  unfold Dz
  have hb:=Classical.not_not.1 hb
  rw [if_pos (by omega),Ae (by omega),Int.toNat_natCast,if_neg (by omega),Ae (by unfold InI;omega)];rfl) (fun i hi hb=>by
  unfold Dz
  rw [if_pos (by omega),Ae (by omega),Int.toNat_natCast,if_pos (by omega)]) (by
  unfold Dz
  rw [if_neg (by omega)]) 0 (by omega)
 refine (Kk this false true).trans (congrArg some (Tt ?_))
 rw [Qj]
 constructor
 ·intro h x hx;obtain ⟨i,hi,rfl⟩:=Io.1 hx;exact h i hi
 ·intro h i hi;exact h _ (Bk hi)
theorem Ac6 {vs ws t:List Int} (h : ∀x∈t,0≤x→nth vs x.toNat=nth ws x.toNat):Hm a vs t=Hm a ws t:=by
 unfold Hm Ajx
 rw [Zm h]
noncomputable def Nt (a:SAlgebra) (t:List Int) (k:Nat):List Int:=(List.range (a.Size.toNat^k)).map fun i=>Hm a (Gi a.Size.toNat k i) t
theorem Xs (t:List Int) (k:Nat):(Nt a t k).length=a.Size.toNat^k:=by simp [Nt]
theorem Ae9 {t:List Int} {n k i:Nat}:((List.range (i+1)).map fun i=>Hm a (Gi n k i) t)=((List.range i).map fun i=>Hm a (Gi n k i) t)++[Hm a (Gi n k i) t]:=by
 rw [List.range_succ,List.map_append];rfl
theorem Ajl (hg:B8 a) {t:List Int} (ht:isT a t) (hv : ∀x∈t,x<(3:Int)):Fq a t 3=some (Nt a t 3):=by
 have hL:=B5
 have h1:=hg.1
 have h8:=hg.2.1
 obtain ⟨n,hn⟩ : ∃n:Nat,a.Size=(n:Int):=⟨a.Size.toNat,by omega⟩
 have hn1:0<n:=by omega
 have hn8:n≤8:=by omega
 have hp:n^3≤512:=Nat.pow_le_pow_left hn8 3
 have hz:a.Size.toNat=n:=by omega
 have et:Nt a t 3=(List.range (n^3)).map fun i=>Hm a (Gi n 3 i) t:=by unfold Nt;rw [hz]
 unfold Fq
 have key:=Bq (body:=Cz a t 3) (fun i=>((i:Int),(List.range i).map fun i=>Hm a (Gi n 3 i) t)) (n^3) (Nt a t 3) (fun i hi=>by
  unfold Cz
  dsimp only
  rw [hn,show Ct (n:Int) 3=_ from Aho hn8 (Nat.le_refl 3)]
  simp only [Option.bind_some]
  rw [if_pos (by omega),show Cn (i:Int) 3 n=_ from Ao2 hn1 hn8 (Nat.le_refl 3) (by omega)]
  simp only [Option.bind_some]
  rw [Y5 hg ht (fun x hx _=>by rw [Ll];exact hv x hx) (by rw [hz];exact Xi hn1 _ _)]
  simp only [Option.bind_some]
  rw [Ae (by simp;omega),Ae (by unfold InI;omega),Ae9]
  rfl) (by
  unfold Cz
  dsimp only
  rw [hn,show Ct (n:Int) 3=_ from Aho hn8 (Nat.le_refl 3)]
  simp only [Option.bind_some]
  rw [if_neg (by omega),et])
 have key':Ay (Cz a t 3) (0,A8 Int)=_:=key
 rw [key'];rfl
theorem Atp (hg:B8 a) {t:List Int} (ht:isT a t) (hv : ∀x∈t,x<(3:Int)):La a t 3=some { Arity:=3,Table:=Nt a t 3 }:=by
 have hL:=B5
 have h1:=hg.1
 have h8:=hg.2.1
 obtain ⟨n,hn⟩ : ∃n:Nat,a.Size=(n:Int):=⟨a.Size.toNat,by omega⟩
 have hn1:0<n:=by omega
 have hn8:n≤8:=by omega
 have hp:n^3≤512:=Nat.pow_le_pow_left hn8 3
 have hz:a.Size.toNat=n:=by omega
 have et:Nt a t 3=(List.range (n^3)).map fun i=>Hm a (Gi n 3 i) t:=by unfold Nt;rw [hz]
 unfold La
 have key:=Bq (body:=E5 a t 3) (fun i=>((i:Int),({ Arity:=3,Table:=(List.range i).map fun i=>Hm a (Gi n 3 i) t }:SOp))) (n^3) { Arity:=3,Table:=Nt a t 3 } (fun i hi=>by
  unfold E5
  dsimp only
  rw [hn,show Cb (n:Int) 3=_ from Aaz hn8 (Nat.le_refl 3)]
  simp only [Option.bind_some]
  rw [if_pos (by omega),show Co n 3 (i:Int)=_ from Ajf hn1 hn8 (Nat.le_refl 3) (by omega)]
  simp only [Option.bind_some]
  rw [X1 hg ht (fun x hx _=>by rw [Ll];exact hv x hx) (by rw [hz];exact Xi hn1 _ _)]
  simp only [Option.bind_some]
  rw [Ae (by simp;omega),Ae (by unfold InI;omega),Ae9]
  rfl) (by
  unfold E5
  dsimp only
  rw [hn,show Cb (n:Int) 3=_ from Aaz hn8 (Nat.le_refl 3)]
  simp only [Option.bind_some]
  rw [if_neg (by omega),et])
 have key':Ay (E5 a t 3) (0,{ Arity:=3,Table:=A8 Int })=_:=key
 rw [key'];rfl
noncomputable def Adf (a:SAlgebra) (t:List Int):SOp×Bool:=if B8 a∧isT a t ∧ ∀x∈t,x<(3:Int) then ({ Arity:=3,Table:=Nt a t 3 },true) else ({ Arity:=0,Table:=[] },false)
theorem Z0 (hsm:Oz a) {t:List Int} (hl:t.length≤1000):Gd a t 3=some (Adf a t)∧H7 a t 3=some (Adf a t):=by
 have h3:D4 t 3=some (decide (∀x∈t,x<(3:Int))):=Zw hl 3
 have h3':Gc t 3=some (decide (∀x∈t,x<(3:Int))):=Aqf hl 3
 have hin:Ds 3 0 3=some true:=rfl
 unfold Gd H7 Adf
 rw [Aih hsm,Ank hsm,h3,h3',hin]
 simp only [Option.bind_some]
 by_cases h:B8 a∧isT a t
 ·rw [decide_eq_true h]
  by_cases hv : ∀x∈t,x<(3:Int)
  ·have e:B8 a∧isT a t ∧ ∀x∈t,x<(3:Int):=⟨h.1,h.2,hv⟩
   rw [if_pos e,decide_eq_true hv,Ajl h.1 h.2 hv,Atp h.1 h.2 hv]
   exact ⟨rfl,rfl⟩
  ·have e:¬(B8 a∧isT a t ∧ ∀x∈t,x<(3:Int)):=fun hh=>hv hh.2.2
   have e2:(if B8 a∧isT a t ∧ ∀x∈t,x<(3:Int) then (({ Arity:=3,Table:=Nt a t 3 }:SOp),true) else ({ Arity:=0,Table:=[] },false))=({ Arity:=0,Table:=[] },false):=if_neg e
   rw [e2,decide_eq_false hv]
   exact ⟨rfl,rfl⟩
 ·have e:¬(B8 a∧isT a t ∧ ∀x∈t,x<(3:Int)):=fun hh=>h ⟨hh.1,hh.2.1⟩
  have e2:(if B8 a∧isT a t ∧ ∀x∈t,x<(3:Int) then (({ Arity:=3,Table:=Nt a t 3 }:SOp),true) else ({ Arity:=0,Table:=[] },false))=({ Arity:=0,Table:=[] },false):=if_neg e
  rw [e2,decide_eq_false h]
  exact ⟨rfl,rfl⟩
end
end Go.Proofs.Ytmcbocbcpijgeaa.Ax
namespace Go.Proofs.Ytmcbocbcpijgeaa.Ax
open Go Classical
theorem P1 (P:Nat→Prop) : ∀x,P x → ∃y,y≤x∧P y ∧ ∀z,z<y→¬P z:=by
 intro x
 induction x using Nat.strongRecOn with
 | _ x ih=>
   intro h
   by_cases hz : ∃z,z<x∧P z
   ·obtain ⟨z,h1,h2⟩:=hz
    obtain ⟨y,a,b,c⟩:=ih z h1 h2
    exact ⟨y,by omega,b,c⟩
   ·exact ⟨x,Nat.le_refl _,h,fun z hz' h'=>hz ⟨z,hz',h'⟩⟩
end Go.Proofs.Ytmcbocbcpijgeaa.Ax
namespace Go.Proofs.Ytmcbocbcpijgeaa.Ax
open Go Classical
def leP (q p:List Int):Prop:=q.length=p.length ∧ ∀i,i<p.length→nth q i≤nth p i
theorem leP.refl (p:List Int):leP p p:=⟨rfl,fun _ _=>Int.le_refl _⟩
theorem leP.trans {a b c:List Int} (h:leP a b) (h':leP b c):leP a c:=⟨h.1.trans h'.1,fun i hi=>Int.le_trans (h.2 i (by rw [h'.1];exact hi)) (h'.2 i hi)⟩
theorem leP.anti {a b:List Int} (h:leP a b) (h':leP b a):a=b:=Tp h.1 fun i hi=>Int.le_antisymm (h.2 i (by rw [←h.1];exact hi)) (h'.2 i hi)
def okP (n:Nat) (q:List Int):Prop:=q.length=n∧C6 q n
def Rel (n:Nat) (s t:Bool×Bool×List Int) (D:Prop):Prop:=
 okP n t.2.2∧leP t.2.2 s.2.2∧((t=s∧D)∨(t.2.2≠s.2.2∧t.1=true∧t.2.1=true∧¬D))
theorem Rel.congr {n:Nat} {s t:Bool×Bool×List Int} {D E:Prop} (h:Rel n s t D) (e:D↔E):Rel n s t E:=by
 rw [←propext e];exact h
end Go.Proofs.Ytmcbocbcpijgeaa.Ax
namespace Go.Proofs.Ytmcbocbcpijgeaa.Ax
open Go Classical
def wrI (L r v:List Int):Nat→List Int
 | 0=>v
 | j+1=>(wrI L r v j).set (nth L j).toNat (nth r j)
theorem Kz (L r v:List Int) : ∀j,(wrI L r v j).length=v.length
 | 0=>rfl
 | j+1=>by rw [wrI,List.length_set,Kz L r v j]
theorem Wp {L r v:List Int} {z:Nat} (hz:z<v.length) : ∀ {j},(∀k,k<j→(nth L k).toNat≠z)→nth (wrI L r v j) z=nth v z
 | 0,_=>rfl
 | j+1,h=>by
   rw [wrI,Aax _ _ _ _ (by rw [Kz];exact hz),if_neg (h j (Nat.lt_succ_self j))]
   exact Wp hz fun k hk=>h k (by omega)
theorem Agf {L r v:List Int} {m:Nat} (inj : ∀k l,k<l→l<m→(nth L k).toNat≠(nth L l).toNat) (hin : ∀k,k<m→(nth L k).toNat<v.length) : ∀ {j},j≤m → ∀k,k<j→nth (wrI L r v j) (nth L k).toNat=nth r k
 | 0,_,k,hk=>by omega
 | j+1,hj,k,hk=>by
   rw [wrI,Aax _ _ _ _ (by rw [Kz];exact hin k (by omega))]
   by_cases e:k=j
   ·subst e;rw [if_pos rfl]
   ·rw [if_neg (fun h=>inj k j (by omega) (by omega) h.symm)]
    exact Agf inj hin (by omega) k (by omega)
theorem Am8 {L r r' v:List Int} {m:Nat} (inj : ∀k l,k<l→l<m→(nth L k).toNat≠(nth L l).toNat) (hin : ∀k,k<m→(nth L k).toNat<v.length):wrI L r (wrI L r' v m) m=wrI L r v m:=by
 refine Tp (by simp only [Kz]) fun z hz=> ?_
 simp only [Kz] at hz
 by_cases h : ∃k,k<m∧(nth L k).toNat=z
 ·obtain ⟨k,hk,rfl⟩:=h
  rw [Agf inj (fun k hk=>by rw [Kz];exact hin k hk) (Nat.le_refl m) k hk,Agf inj hin (Nat.le_refl m) k hk]
 ·have h' : ∀k,k<m→(nth L k).toNat≠z:=fun k hk e=>h ⟨k,hk,e⟩
  rw [Wp (by rw [Kz];exact hz) h',Wp hz h',Wp hz h']
section
variable {a:SAlgebra} {e:SIdentity}
def vL (e:SIdentity):List Int:=A7 6 fun z=>decide ((z:Int)∈e.Left++e.Right)
noncomputable def Ns (L:List Int):Nat:=if L.length=0 then 0 else (nth L (L.length-1)).toNat+1
noncomputable def Dt (a:SAlgebra) (e:SIdentity):Nat:=a.Size.toNat^(vL e).length
noncomputable def Jr (a:SAlgebra) (e:SIdentity) (i:Nat):List Int:=wrI (vL e) (Gi a.Size.toNat (vL e).length i) (List.replicate (Ns (vL e)) 0) (vL e).length
noncomputable def I6 (a:SAlgebra) (e:SIdentity) (i:Nat):Prop:=Hm a (Jr a e i) e.Left≠Hm a (Jr a e i) e.Right
theorem Ow:(vL e).length≤6:=Yr _ _
theorem Wh {k:Nat} (hk:k<(vL e).length):0≤nth (vL e) k∧nth (vL e) k<6:=by
 have:=Bk hk
 unfold vL at this ⊢
 obtain ⟨z,h1,h2,h3⟩:=Hf.1 this
 omega
theorem Ape : ∀k l,k<l→l<(vL e).length→(nth (vL e) k).toNat≠(nth (vL e) l).toNat:=fun k l h1 h2 h=>by
 have:=Ta (Nz 6 fun z=>decide ((z:Int)∈e.Left++e.Right)) h1 h2
 have a1:=Wh (e:=e) (k:=k) (by omega)
 have a2:=Wh (e:=e) h2
 unfold vL at *
 omega
theorem Xu : ∀k,k<(vL e).length→(nth (vL e) k).toNat<Ns (vL e):=fun k hk=>by
 unfold Ns
 rw [if_neg (by omega)]
 by_cases h:k=(vL e).length-1
 ·subst h;omega
 ·have:=Ta (Nz 6 fun z=>decide ((z:Int)∈e.Left++e.Right)) (show k<(vL e).length-1 by omega) (show (vL e).length-1<(vL e).length by omega)
  have a1:=Wh (e:=e) hk
  have a2:=Wh (e:=e) (show (vL e).length-1<(vL e).length by omega)
  unfold vL at *
  omega
theorem Wy:Ns (vL e)≤6:=by
 unfold Ns
 split
 ·omega
 ·have:=Wh (e:=e) (show (vL e).length-1<(vL e).length by omega)
  omega
theorem Aoy {x:Int} (h0:0≤x) (h6:x<((6:Nat):Int)) (hx:x∈e.Left++e.Right) : ∃k,k<(vL e).length∧nth (vL e) k=x:=by
 have:x∈vL e:=Hf.2 ⟨x.toNat,by omega,by simpa [Int.toNat_of_nonneg h0] using hx,by omega⟩
 obtain ⟨k,hk,e⟩:=Io.1 this
 exact ⟨k,hk,e⟩
theorem Ij (i:Nat):(Jr a e i).length=Ns (vL e):=by unfold Jr;rw [Kz,List.length_replicate]
theorem Ams (i:Nat) {k:Nat} (hk:k<(vL e).length):nth (Jr a e i) (nth (vL e) k).toNat=nth (Gi a.Size.toNat (vL e).length i) k:=
 Agf Ape (fun k hk=>by rw [List.length_replicate];exact Xu k hk) (Nat.le_refl _) k hk
theorem Q9 (hg:B8 a) (i:Nat):C6 (Jr a e i) a.Size.toNat:=fun x hx=>by
 have h1:=hg.1
 obtain ⟨z,hz,rfl⟩:=Io.1 hx
 rw [Ij] at hz
 by_cases h : ∃k,k<(vL e).length∧(nth (vL e) k).toNat=z
 ·obtain ⟨k,hk,rfl⟩:=h
  rw [Ams i hk]
  exact Xi (by omega) _ i _ (Bk (by rw [Ll];exact hk))
 ·unfold Jr
  rw [Wp (by rw [List.length_replicate];exact hz) fun k hk e=>h ⟨k,hk,e⟩,Vc _ hz]
  omega
theorem Ie {t:List Int} (ht:isT a t) (hsub : ∀x∈t,x∈e.Left++e.Right) (i:Nat) : ∀x∈t,0≤x→x<((Jr a e i).length:Int):=fun x hx h0=>by
 obtain ⟨k,hk,rfl⟩:=Aoy h0 (To ht x hx) (hsub x hx)
 have:=Xu k hk
 rw [Ij];omega
theorem P2 (hg:B8 a) : ∀i,i≤(vL e).length→a.Size.toNat^i≤262144:=fun i hi=>by
 have h6:=Ow (e:=e)
 have h8:a.Size.toNat≤8:=by have:=hg.2.1;omega
 exact Nat.le_trans (Nat.pow_le_pow_left h8 i) (Nat.le_trans (Nat.pow_le_pow_right (by omega) (show i≤6 by omega)) (by decide))
theorem Add {ts:List (List Int)} {i:Nat} {t:List Int} (hi:nth ts i=t) (Q:Nat→Bool) (ht : ∀x∈t,x<((6:Nat):Int)) (hl:t.length≤1000) :
  Ay (Cg ts (i:Int)) (0,Ka 6 Q)=some (Ka 6 fun z=>Q z || decide ((z:Int)∈t)):=by
 have hL:=B5
 have key:=Bq (body:=Cg ts (i:Int)) (fun j=>((j:Int),Ka 6 fun z=>Q z || decide ((z:Int)∈t.take j))) t.length (Ka 6 fun z=>Q z || decide ((z:Int)∈t)) (fun j hj=>by
  have hx:=ht _ (Bk hj)
  have hbl:=Xk 6 fun z=>Q z || decide ((z:Int)∈t.take j)
  unfold Cg
  dsimp only
  rw [Int.toNat_natCast,hi,if_pos (by omega),Ae (by omega),Int.toNat_natCast]
  by_cases h0:nth t j≥0
  ·rw [if_pos h0,Ae (by rw [hbl];omega),Ae (by unfold InI;omega),Aqk (by omega)]
   congr 3
   refine Vj fun z _=> ?_
   rw [Ju hj]
   by_cases hz:z=(nth t j).toNat
   ·rw [if_pos hz]
    have:decide ((z:Int)∈t.take j++[nth t j])=true:=decide_eq_true (by rw [List.mem_append,List.mem_singleton];right;omega)
    rw [this,Bool.or_true]
   ·rw [if_neg hz]
    congr 1
    rw [decide_eq_decide,List.mem_append,List.mem_singleton]
    exact ⟨.inl,fun hh=>hh.resolve_right (by omega)⟩
  ·rw [if_neg h0,Ae (by unfold InI;omega)]
   congr 3
   refine Vj fun z _=> ?_
   congr 1
   rw [Ju hj,decide_eq_decide,List.mem_append,List.mem_singleton]
   exact ⟨.inl,fun hh=>hh.resolve_right (by omega)⟩) (by
  unfold Cg
  dsimp only
  rw [Int.toNat_natCast,hi,if_neg (by omega),List.take_length])
 have e0:(Ka 6 fun z=>Q z || decide ((z:Int)∈t.take 0))=Ka 6 Q:=Vj fun z _=>by simp
 have key':Ay (Cg ts (i:Int)) (((0:Nat):Int),Ka 6 fun z=>Q z || decide ((z:Int)∈t.take 0))=_:=key
 rw [e0] at key'
 exact key'
theorem Am7 {l r:List Int} (hl:l.length≤1000) (hr:r.length≤1000) (h1 : ∀x∈l,x<((6:Nat):Int)) (h2 : ∀x∈r,x<((6:Nat):Int)) :
  Gb [l,r]=some (A7 6 fun z=>decide ((z:Int)∈l++r)):=by
 have hL:=B5
 unfold Gb
 have e1:List.replicate (Int.toNat 6) false=Ka 6 fun _=>false:=by
  refine Tp (by rw [Xk];rfl) fun z hz=> ?_
  have hz6:z<6:=by simpa using hz
  rw [Aay hz6,Vc _ (by simpa using hz)]
 have s0:Cv [l,r] (0,Ka 6 fun _=>false)=some (.inl (1,Ka 6 fun z=>false || decide ((z:Int)∈l))):=by
  unfold Cv
  dsimp only
  rw [if_pos (by simp),Ae (by simp),show Ay (Cg [l,r] 0) (0,Ka 6 fun _=>false)=_ from Add (ts:=[l,r]) (i:=0) rfl _ h1 hl]
  simp only [Option.bind_some]
  rw [Ae (by unfold InI;omega)]
  rfl
 have s1:Cv [l,r] (1,Ka 6 fun z=>false || decide ((z:Int)∈l))=some (.inl (2,Ka 6 fun z=>(false || decide ((z:Int)∈l)) || decide ((z:Int)∈r))):=by
  unfold Cv
  dsimp only
  rw [if_pos (by simp),Ae (by simp),show Ay (Cg [l,r] 1) (0,Ka 6 fun z=>false || decide ((z:Int)∈l))=_ from Add (ts:=[l,r]) (i:=1) rfl _ h2 hr]
  simp only [Option.bind_some]
  rw [Ae (by unfold InI;omega)]
  rfl
 have s2:Cv [l,r] (2,Ka 6 fun z=>(false || decide ((z:Int)∈l)) || decide ((z:Int)∈r))=some (.inr (Ka 6 fun z=>(false || decide ((z:Int)∈l)) || decide ((z:Int)∈r))):=by
  unfold Cv
  dsimp only
  rw [if_neg (by simp)]
 rw [e1,Fk s0,Fk s1,Ck s2]
 simp only [Option.bind_some]
 rw [Aqd (by omega)]
 simp only [Option.bind_some]
 congr 1
 refine Oo fun z _=> ?_
 rw [Bool.false_or,←Bool.decide_or,decide_eq_decide,List.mem_append]
theorem Aok {t:List Int} (hl:t.length≤1000) (ht : ∀x∈t,x<((6:Nat):Int)):E4 t=some (A7 6 fun z=>decide ((z:Int)∈t)):=by
 have:E4 t=H9 t:=rfl
 rw [this,Aql hl ht]
theorem Am1 (hl:isT a e.Left) (hr:isT a e.Right):Gb [e.Left,e.Right]=some (vL e):=Am7 (by have:=hl.1;omega) (by have:=hr.1;omega) (To hl) (To hr)
theorem Amk (hl:isT a e.Left) (hr:isT a e.Right):E4 (e.Left++e.Right)=some (vL e):=Aok (by have:=hl.1;have:=hr.1;simp;omega) fun x hx=>by
 rcases List.mem_append.1 hx with h | h
 ·exact To hl x h
 ·exact To hr x h
noncomputable def stV (a:SAlgebra) (e:SIdentity):Nat→List Int
 | 0=>List.replicate (Ns (vL e)) 0
 | i+1=>Jr a e i
theorem Al3 (i:Nat):(stV a e i).length=Ns (vL e):=by cases i with
 | zero=>simp [stV]
 | succ i=>exact Ij i
theorem Ajq (i:Nat):wrI (vL e) (Gi a.Size.toNat (vL e).length i) (stV a e i) (vL e).length=Jr a e i:=by
 cases i with
 | zero=>rfl
 | succ i=>exact Am8 Ape fun k hk=>by rw [List.length_replicate];exact Xu k hk
theorem Aur {x9 r2:Int} {r v:List Int} (hr:r.length=(vL e).length) (hv:v.length=Ns (vL e)):Ay (C3 a e (vL e) r2 x9 r) (0,v)=some (wrI (vL e) r v (vL e).length):=by
 have h6:=Ow (e:=e)
 have key:=Bq (body:=C3 a e (vL e) r2 x9 r) (fun j=>((j:Int),wrI (vL e) r v j)) (vL e).length (wrI (vL e) r v (vL e).length) (fun j hj=>by
  have a1:=Wh hj
  have a2:=Xu j hj
  unfold C3
  dsimp only
  rw [if_pos (by omega),Ae (by omega),Ae (by omega),Int.toNat_natCast,Ae (by rw [Kz];omega),Ae (by unfold InI;omega)]
  rfl) (by
  unfold C3
  dsimp only
  rw [if_neg (by omega)])
 exact key
theorem Aut {x8:Int} {r v:List Int} (hr:r.length=(vL e).length) (hv:v.length=Ns (vL e)):Ay (C0 a e (vL e) x8 r) (0,v)=some (wrI (vL e) r v (vL e).length):=by
 have h6:=Ow (e:=e)
 have key:=Bq (body:=C0 a e (vL e) x8 r) (fun j=>((j:Int),wrI (vL e) r v j)) (vL e).length (wrI (vL e) r v (vL e).length) (fun j hj=>by
  have a1:=Wh hj
  have a2:=Xu j hj
  unfold C0
  dsimp only
  rw [if_pos (by omega),Ae (by omega),Ae (by omega),Int.toNat_natCast,Ae (by rw [Kz];omega),Ae (by unfold InI;omega)]
  rfl) (by
  unfold C0
  dsimp only
  rw [if_neg (by omega)])
 exact key
variable (hg:B8 a) (hl:isT a e.Left) (hr:isT a e.Right)
include hg hl hr
theorem Ak3 {r2:Int} {i:Nat} (h2:(i:Int)<r2) (hi:i≤1000000):Ci a e (vL e) r2 ((i:Int),stV a e i)=if I6 a e i then some (.inr (.inl (Jr a e i))) else some (.inl (((i+1:Nat):Int),stV a e (i+1))):=by
 have h1:=hg.1
 have h8:=hg.2.1
 have h6:=Ow (e:=e)
 unfold Ci
 dsimp only
 have ea:Cn (i:Int) ((vL e).length:Int) a.Size=some (Gi a.Size.toNat (vL e).length i):=by
  have:=Af2 (n:=a.Size.toNat) (r:=(vL e).length) (k:=i) (by omega) (by omega) (by omega) (by omega)
  rwa [show ((a.Size.toNat:Nat):Int)=a.Size by omega] at this
 rw [if_pos h2,ea]
 simp only [Option.bind_some]
 rw [Aur (Ll _ _ _) (Al3 i),Ajq]
 simp only [Option.bind_some]
 rw [Y5 hg hl (Ie hl (fun x hx=>by simp [hx]) i) (Q9 hg i),Y5 hg hr (Ie hr (fun x hx=>by simp [hx]) i) (Q9 hg i)]
 simp only [Option.bind_some]
 unfold I6
 by_cases hb:Hm a (Jr a e i) e.Left≠Hm a (Jr a e i) e.Right
 ·rw [if_pos hb,if_pos hb]
 ·rw [if_neg hb,if_neg hb,Ae (by unfold InI;omega)];rfl
theorem Aly {i:Nat} (h2:i<Dt a e):Bw a e (vL e) ((i:Int),stV a e i)=if I6 a e i then some (.inr (.inl (Jr a e i))) else some (.inl (((i+1:Nat):Int),stV a e (i+1))):=by
 have h1:=hg.1
 have h8:=hg.2.1
 have h6:=Ow (e:=e)
 have hm:=P2 (e:=e) hg (vL e).length (Nat.le_refl _)
 have ep:Cb a.Size ((vL e).length:Int)=some ((Dt a e:Nat):Int):=by
  have:=Aiu (n:=a.Size.toNat) (k:=(vL e).length) 262144 (by omega) (P2 hg) (by omega)
  rwa [show ((a.Size.toNat:Nat):Int)=a.Size by omega] at this
 have ea:Co a.Size ((vL e).length:Int) (i:Int)=some (Gi a.Size.toNat (vL e).length i):=by
  have:=Afa (n:=a.Size.toNat) (r:=(vL e).length) (k:=i) (by omega) (by omega) (by omega) (by unfold Dt at h2;omega)
  rwa [show ((a.Size.toNat:Nat):Int)=a.Size by omega] at this
 unfold Bw
 dsimp only
 rw [ep]
 simp only [Option.bind_some]
 rw [if_pos (by omega),ea]
 simp only [Option.bind_some]
 rw [Aut (Ll _ _ _) (Al3 i),Ajq]
 simp only [Option.bind_some]
 rw [X1 hg hl (Ie hl (fun x hx=>by simp [hx]) i) (Q9 hg i),X1 hg hr (Ie hr (fun x hx=>by simp [hx]) i) (Q9 hg i)]
 simp only [Option.bind_some]
 unfold I6
 by_cases hb:Hm a (Jr a e i) e.Left≠Hm a (Jr a e i) e.Right
 ·rw [if_pos hb,if_pos hb]
 ·rw [if_neg hb,if_neg hb,Ae (by unfold InI;unfold Dt at h2;omega)];rfl
omit hl hr in
theorem Asx:Bw a e (vL e) ((Dt a e:Int),stV a e (Dt a e))=some (.inr (.inr ())):=by
 have h1:=hg.1
 have h6:=Ow (e:=e)
 have ep:Cb a.Size ((vL e).length:Int)=some ((Dt a e:Nat):Int):=by
  have:=Aiu (n:=a.Size.toNat) (k:=(vL e).length) 262144 (by omega) (P2 hg) (by omega)
  rwa [show ((a.Size.toNat:Nat):Int)=a.Size by omega] at this
 unfold Bw
 dsimp only
 rw [ep]
 simp only [Option.bind_some]
 rw [if_neg (by omega)]
omit hg hl hr in
theorem Arf:Ay (Cj a e (vL e)) (A8 Int)=some (stV a e 0):=by
 have hL:=B5
 have h6:=Ow (e:=e)
 have hz:=Wy (e:=e)
 by_cases hm:(vL e).length=0
 ·have e0:stV a e 0=[]:=by simp [stV,Ns,hm]
  rw [e0,Ck (t:=([]:List Int))]
  unfold Cj
  rw [if_neg (by omega)]
 ·have hlast:=Wh (e:=e) (show (vL e).length-1<(vL e).length by omega)
  have hlen:Ns (vL e)=(nth (vL e) ((vL e).length-1)).toNat+1:=by unfold Ns;rw [if_neg hm]
  have en:(((vL e).length:Int)-1).toNat=(vL e).length-1:=by omega
  have key:=Bq (body:=Cj a e (vL e)) (fun j=>List.replicate j (0:Int)) (Ns (vL e)) (stV a e 0) (fun j hj=>by
   unfold Cj
   rw [if_pos (by omega),Ae (by unfold InI;omega),Ae (by omega),en,if_pos (by rw [List.length_replicate];omega),Ae (by simp;omega),List.replicate_succ']) (by
   unfold Cj
   rw [if_pos (by omega),Ae (by unfold InI;omega),Ae (by omega),en,if_neg (by rw [List.length_replicate];omega)]
   rfl)
  exact key
theorem Mn:(∃i,i<Dt a e∧I6 a e i∧(∀j,j<i→¬I6 a e j)∧De a e=some (Jr a e i,true))∨((∀i,i<Dt a e→¬I6 a e i)∧De a e=some ([],false)):=by
 have hL:=B5
 have a1:=hl.1
 have a2:=hr.1
 have base:De a e=(Ay (Bw a e (vL e)) (((0:Nat):Int),stV a e 0)).bind fun t=>match t with | (.inl q21_4)=>(some (q21_4,true)) | (.inr _)=>(some (A8 Int,false)):=by
  unfold De
  rw [Alj (by omega)]
  simp only [Option.bind_some]
  rw [Ae (by omega),Amk hl hr]
  simp only [Option.bind_some]
  rw [Arf]
  rfl
 by_cases hx : ∃i,i<Dt a e∧I6 a e i
 ·obtain ⟨i0,h1,h2⟩:=hx
  obtain ⟨i,g1,g2,g3⟩:=P1 (I6 a e) i0 h2
  refine .inl ⟨i,by omega,g2,g3,?_⟩
  rw [base,Bq (body:=Bw a e (vL e)) (fun i=>((i:Int),stV a e i)) i (.inl (Jr a e i)) (fun j hj=>by rw [Aly hg hl hr (by omega),if_neg (g3 j hj)]) (by rw [Aly hg hl hr (by omega),if_pos g2])]
  rfl
 ·have hn : ∀i,i<Dt a e→¬I6 a e i:=fun i hi hb=>hx ⟨i,hi,hb⟩
  refine .inr ⟨hn,?_⟩
  rw [base,Bq (body:=Bw a e (vL e)) (fun i=>((i:Int),stV a e i)) (Dt a e) (.inr ()) (fun j hj=>by rw [Aly hg hl hr hj,if_neg (hn j hj)]) (Asx hg)]
  rfl
omit hl hr in
theorem Acc:Ct a.Size ((vL e).length:Int)=some ((Dt a e:Nat):Int):=by
 have h1:=hg.1
 have h6:=Ow (e:=e)
 have:=Aor (n:=a.Size.toNat) (k:=(vL e).length) 262144 (by omega) (P2 hg) (by omega)
 rwa [show ((a.Size.toNat:Nat):Int)=a.Size by omega] at this
noncomputable def Apg (a:SAlgebra) (e:SIdentity) (i:Nat):Option (List Int):=if (vL e).length=0 then none else some (Jr a e i)
theorem W5 (hmany:Dt a e≤5000):(∃i,i<Dt a e∧I6 a e i∧(∀j,j<i→¬I6 a e j)∧Cs a e=some (some (Apg a e i),true))∨((∀i,i<Dt a e→¬I6 a e i)∧Cs a e=some (none,true)):=by
 have hL:=B5
 have h1:=hg.1
 have h8:=hg.2.1
 have h6:=Ow (e:=e)
 have hz:=Wy (e:=e)
 unfold Cs
 rw [Am1 hl hr]
 simp only [Option.bind_some]
 rw [Acc hg]
 simp only [Option.bind_some]
 rw [if_neg (by omega)]
 by_cases hm:(vL e).length=0
 ·rw [if_neg (by omega)]
  have hone:Dt a e=1:=by unfold Dt;rw [hm];rfl
  have hv:Jr a e 0=[]:=List.eq_nil_of_length_eq_zero (by rw [Ij];unfold Ns;rw [if_pos hm])
  have hvL:vL e=[]:=List.eq_nil_of_length_eq_zero hm
  have ea:Cn 0 ((vL e).length:Int) a.Size=some []:=by
   have:=Af2 (n:=a.Size.toNat) (r:=(vL e).length) (k:=0) (by omega) (by omega) (by omega) (by omega)
   rw [show ((a.Size.toNat:Nat):Int)=a.Size by omega,hm] at this
   rw [hm];exact this
  have ein:Ay (Dy a e (vL e) ((Dt a e:Nat):Int) 0 []) ()=some ():=by
   refine Ck ?_
   unfold Dy
   rw [if_neg (by simp)]
  have e1:=Y5 hg hl (vs:=A8 Int) (fun x hx h0=>by have:=Ie (e:=e) hl (fun x hx=>by simp [hx]) 0 x hx h0;rw [hv] at this;exact this) (fun x hx=>by simp [A8] at hx)
  have e2:=Y5 hg hr (vs:=A8 Int) (fun x hx h0=>by have:=Ie (e:=e) hr (fun x hx=>by simp [hx]) 0 x hx h0;rw [hv] at this;exact this) (fun x hx=>by simp [A8] at hx)
  have hbad:I6 a e 0↔Hm a (A8 Int) e.Left≠Hm a (A8 Int) e.Right:=by unfold I6;rw [hv]
  by_cases hb:I6 a e 0
  ·refine .inl ⟨0,by omega,hb,fun j hj=>by omega,?_⟩
   have s0:Bu a e (vL e) ((Dt a e:Nat):Int) 0=some (.inr (.inl ())):=by
    unfold Bu
    rw [if_pos (by omega),ea]
    simp only [Option.bind_some]
    rw [ein]
    simp only [Option.bind_some]
    rw [e1,e2]
    simp only [Option.bind_some]
    rw [if_pos (hbad.1 hb)]
   rw [Ck s0]
   unfold Apg
   rw [if_pos hm]
   rfl
  ·refine .inr ⟨fun i hi=>by rw [show i=0 by omega];exact hb,?_⟩
   have s0:Bu a e (vL e) ((Dt a e:Nat):Int) 0=some (.inl 1):=by
    unfold Bu
    rw [if_pos (by omega),ea]
    simp only [Option.bind_some]
    rw [ein]
    simp only [Option.bind_some]
    rw [e1,e2]
    simp only [Option.bind_some]
    rw [if_neg (fun hh=>hb (hbad.2 hh)),Ae (by unfold InI;omega)]
    rfl
   have s1:Bu a e (vL e) ((Dt a e:Nat):Int) 1=some (.inr (.inr ())):=by
    unfold Bu
    rw [if_neg (by omega)]
   rw [Fk s0,Ck s1]
   rfl
 ·rw [if_pos (by omega)]
  have hlast:=Wh (e:=e) (show (vL e).length-1<(vL e).length by omega)
  have hlen:Ns (vL e)=(nth (vL e) ((vL e).length-1)).toNat+1:=by unfold Ns;rw [if_neg hm]
  have en:(((vL e).length:Int)-1).toNat=(vL e).length-1:=by omega
  have en2:(nth (vL e) ((vL e).length-1)+1).toNat=Ns (vL e):=by omega
  rw [Ae (by unfold InI;omega),Ae (by omega),en,Ae (by unfold InI;omega),Ae (by omega),en2]
  have e0:((0:Int),List.replicate (Ns (vL e)) (0:Int))=(((0:Nat):Int),stV a e 0):=rfl
  rw [e0]
  by_cases hx : ∃i,i<Dt a e∧I6 a e i
  ·obtain ⟨i0,h1,h2⟩:=hx
   obtain ⟨i,g1,g2,g3⟩:=P1 (I6 a e) i0 h2
   refine .inl ⟨i,by omega,g2,g3,?_⟩
   rw [Bq (body:=Ci a e (vL e) ((Dt a e:Nat):Int)) (fun i=>((i:Int),stV a e i)) i (.inl (Jr a e i)) (fun j hj=>by rw [Ak3 hg hl hr (by omega) (by omega),if_neg (g3 j hj)]) (by rw [Ak3 hg hl hr (by omega) (by omega),if_pos g2])]
   unfold Apg
   rw [if_neg hm]
   rfl
  ·have hn : ∀i,i<Dt a e→¬I6 a e i:=fun i hi hb=>hx ⟨i,hi,hb⟩
   refine .inr ⟨hn,?_⟩
   rw [Bq (body:=Ci a e (vL e) ((Dt a e:Nat):Int)) (fun i=>((i:Int),stV a e i)) (Dt a e) (.inr ()) (fun j hj=>by rw [Ak3 hg hl hr (by omega) (by omega),if_neg (hn j hj)]) (by
    unfold Ci
    dsimp only
    rw [if_neg (by omega)])]
   rfl
theorem Afy (hmany:5000<Dt a e):Cs a e=some (none,false):=by
 unfold Cs
 rw [Am1 hl hr]
 simp only [Option.bind_some]
 rw [Acc hg]
 simp only [Option.bind_some]
 rw [if_pos (by omega)]
end
end Go.Proofs.Ytmcbocbcpijgeaa.Ax
namespace Go.Proofs.Ytmcbocbcpijgeaa.Ax
open Go Classical
section
variable {a:SAlgebra} {e:SIdentity}
noncomputable def okI (a:SAlgebra) (e:SIdentity):Prop:=B8 a∧isT a e.Left∧isT a e.Right∧Dt a e≤5000
noncomputable def Ed (a:SAlgebra) (e:SIdentity):Prop := ∀i,i<Dt a e→¬I6 a e i
noncomputable def dhR (a:SAlgebra) (e:SIdentity):Bool×Bool:=if okI a e then (decide (Ed a e),true) else (false,false)
theorem W4 (hg:B8 a):Ef a e=some (decide (isT a e.Left∧isT a e.Right)):=by
 unfold Ef
 rw [Ab7 hg,Ab7 hg]
 simp only [Option.bind_some]
 by_cases h1:isT a e.Left<;>by_cases h2:isT a e.Right<;>simp [h1,h2]
theorem Pu (hg:B8 a) (hlen:e.Left.length≤1000):Eb a e=some (decide (isT a e.Left∧isT a e.Right∧Dt a e≤5000)):=by
 have hL:=B5
 have h1:=hg.1
 have h8:=hg.2.1
 unfold Eb
 rw [Adn hg,Adn hg]
 simp only [Option.bind_some]
 by_cases hl:isT a e.Left
 ·rw [decide_eq_true hl]
  simp only [if_true]
  by_cases hr:isT a e.Right
  ·rw [decide_eq_true hr]
   simp only [if_true,Option.bind_some]
   have a1:=hl.1
   have a2:=hr.1
   have h6:=Ow (e:=e)
   rw [Alj (by omega)]
   simp only [Option.bind_some]
   rw [Ae (by omega),Amk hl hr]
   simp only [Option.bind_some]
   have key:=Bq (body:=Dl a (vL e)) (fun j=>((j:Int),((a.Size.toNat^j:Nat):Int))) (vL e).length ((Dt a e:Nat):Int) (fun j hj=>by
    have p1:=P2 (e:=e) hg j (by omega)
    have p2:=P2 (e:=e) hg (j+1) (by omega)
    have p3:(a.Size.toNat^(j+1):Nat)=a.Size.toNat^j*a.Size.toNat:=Nat.pow_succ ..
    have p4:((a.Size.toNat^j:Nat):Int)*a.Size=((a.Size.toNat^(j+1):Nat):Int):=by
     rw [p3,Int.natCast_mul]
     congr 1
     omega
    unfold Dl
    dsimp only
    rw [if_pos (by omega),p4,Ae (by unfold InI;omega),Ae (by unfold InI;omega)]
    rfl) (by
    unfold Dl
    dsimp only
    rw [if_neg (by omega)]
    rfl)
   have key':Ay (Dl a (vL e)) (0,1)=_:=key
   rw [key']
   simp only [Option.bind_some]
   congr 1
   rw [decide_eq_decide]
   exact ⟨fun h=>⟨hl,hr,by omega⟩,fun h=>by have:=h.2.2;omega⟩
  ·rw [decide_eq_false hr]
   simp [hr]
 ·rw [decide_eq_false hl]
  simp [hl]
theorem Ii (hsm:Oz a) (hlen:e.Left.length≤1000):Dv a e=some (dhR a e)∧Fe a e=some (dhR a e):=by
 unfold Dv Fe
 rw [N9 hsm,Nd hsm]
 simp only [Option.bind_some]
 by_cases hg:B8 a
 ·rw [decide_eq_true hg,W4 hg,Pu hg hlen]
  simp only [if_true,Option.bind_some]
  by_cases ht:isT a e.Left∧isT a e.Right
  ·rw [decide_eq_true ht]
   simp only [if_true,Option.bind_some]
   by_cases hm:Dt a e≤5000
   ·have hok:okI a e:=⟨hg,ht.1,ht.2,hm⟩
    have e1:dhR a e=(decide (Ed a e),true):=if_pos hok
    rw [decide_eq_true (show isT a e.Left∧isT a e.Right∧_ from ⟨ht.1,ht.2,hm⟩),e1]
    unfold Ec
    simp only [if_true]
    rcases W5 hg ht.1 ht.2 hm with ⟨i,g1,g2,g3,g4⟩ | ⟨g1,g4⟩
    ·have hn:¬Ed a e:=fun hh=>hh i g1 g2
     rw [g4,decide_eq_false hn]
     constructor
     ·simp only [Option.bind_some]
      unfold Apg
      by_cases h0:(vL e).length=0
      ·rw [if_pos h0];rfl
      ·rw [if_neg h0]
       dsimp only
       rw [if_pos rfl,Ae (by rw [Ij];unfold Ns;rw [if_neg h0];omega)]
     ·rcases Mn hg ht.1 ht.2 with ⟨j,k1,k2,k3,k4⟩ | ⟨k1,k4⟩
      ·rw [k4];rfl
      ·exact absurd k1 hn
    ·rw [g4,decide_eq_true (show Ed a e from g1)]
     constructor
     ·rfl
     ·rcases Mn hg ht.1 ht.2 with ⟨j,k1,k2,k3,k4⟩ | ⟨k1,k4⟩
      ·exact absurd k2 (g1 j k1)
      ·rw [k4];rfl
   ·have hok:¬okI a e:=fun hh=>hm hh.2.2.2
    have e1:dhR a e=(false,false):=if_neg hok
    rw [decide_eq_false (show ¬(isT a e.Left∧isT a e.Right∧_) from fun hh=>hm hh.2.2),e1,Afy hg ht.1 ht.2 (by omega)]
    exact ⟨rfl,rfl⟩
  ·have hok:¬okI a e:=fun hh=>ht ⟨hh.2.1,hh.2.2.1⟩
   have e1:dhR a e=(false,false):=if_neg hok
   rw [decide_eq_false ht,decide_eq_false (show ¬(isT a e.Left∧isT a e.Right∧_) from fun hh=>ht ⟨hh.1,hh.2.1⟩),e1]
   exact ⟨rfl,rfl⟩
 ·have hok:¬okI a e:=fun hh=>hg hh.1
  have e1:dhR a e=(false,false):=if_neg hok
  rw [decide_eq_false hg,e1]
  exact ⟨rfl,rfl⟩
noncomputable def fcR (a:SAlgebra) (e:SIdentity):List Int×Bool:=if h:okI a e ∧ ∃i,i<Dt a e∧I6 a e i ∧ ∀j,j<i→¬I6 a e j then (Jr a e (Classical.choose h.2),true) else ([],false)
theorem Aa1 (hok:okI a e) {i:Nat} (h1:i<Dt a e) (h2:I6 a e i) (h3 : ∀j,j<i→¬I6 a e j):fcR a e=(Jr a e i,true):=by
 have h:okI a e ∧ ∃i,i<Dt a e∧I6 a e i ∧ ∀j,j<i→¬I6 a e j:=⟨hok,i,h1,h2,h3⟩
 have e1:fcR a e=(Jr a e (Classical.choose h.2),true):=dif_pos h
 obtain ⟨k1,k2,k3⟩:=Classical.choose_spec h.2
 rw [e1]
 have:Classical.choose h.2=i:=by
  rcases Nat.lt_trichotomy (Classical.choose h.2) i with hh | hh | hh
  ·exact absurd k2 (h3 _ hh)
  ·exact hh
  ·exact absurd h2 (k3 _ hh)
 rw [this]
theorem Adg (h:¬(okI a e∧¬Ed a e)):fcR a e=([],false):=dif_neg fun hh=>h ⟨hh.1,fun hp=>by
 obtain ⟨i,h1,h2,_⟩:=hh.2
 exact hp i h1 h2⟩
theorem Arj:(fcR a e).2=((dhR a e).2 && !(dhR a e).1):=by
 by_cases h:okI a e∧¬Ed a e
 ·obtain ⟨hok,hn⟩:=h
  have : ∃i,i<Dt a e∧I6 a e i:=Classical.byContradiction fun hh=>hn fun i hi hb=>hh ⟨i,hi,hb⟩
  obtain ⟨i0,h1,h2⟩:=this
  obtain ⟨i,g1,g2,g3⟩:=P1 (I6 a e) i0 h2
  rw [Aa1 hok (by omega) g2 g3,show dhR a e=(decide (Ed a e),true) from if_pos hok,decide_eq_false hn]
  rfl
 ·rw [Adg h]
  by_cases hok:okI a e
  ·rw [show dhR a e=(decide (Ed a e),true) from if_pos hok,decide_eq_true (Classical.byContradiction fun hh=>h ⟨hok,hh⟩)]
   rfl
  ·rw [show dhR a e=(false,false) from if_neg hok]
   rfl
theorem Ar7:(fcR a e).1.length≤6:=by
 unfold fcR
 split
 ·show (Jr a e _).length≤6
  rw [Ij];exact Wy
 ·simp
theorem Arn (h:(fcR a e).2=true):okI a e ∧ ∃i,(fcR a e).1=Jr a e i∧I6 a e i:=by
 unfold fcR at h ⊢
 split at h
 ·rename_i hh
  rw [dif_pos hh]
  exact ⟨hh.1,_,rfl,(Classical.choose_spec hh.2).2.1⟩
 ·cases h
theorem W7 (hsm:Oz a) (hlen:e.Left.length≤1000):Em a e=some (fcR a e)∧En a e=some (fcR a e):=by
 unfold Em En
 rw [N9 hsm,Nd hsm]
 simp only [Option.bind_some]
 by_cases hg:B8 a
 ·rw [decide_eq_true hg,W4 hg,Pu hg hlen]
  simp only [if_true,Option.bind_some]
  by_cases ht:isT a e.Left∧isT a e.Right
  ·rw [decide_eq_true ht]
   simp only [if_true,Option.bind_some]
   by_cases hm:Dt a e≤5000
   ·have hok:okI a e:=⟨hg,ht.1,ht.2,hm⟩
    rw [decide_eq_true (show isT a e.Left∧isT a e.Right∧_ from ⟨ht.1,ht.2,hm⟩)]
    simp only [if_true]
    rcases W5 hg ht.1 ht.2 hm with ⟨i,g1,g2,g3,g4⟩ | ⟨g1,g4⟩
    ·rw [g4,Aa1 hok g1 g2 g3]
     constructor
     ·simp only [Option.bind_some]
      unfold Apg
      by_cases h0:(vL e).length=0
      ·rw [if_pos h0]
       have hv:Jr a e i=[]:=List.eq_nil_of_length_eq_zero (by rw [Ij];unfold Ns;rw [if_pos h0])
       rw [hv];rfl
      ·rw [if_neg h0]
       dsimp only
       rw [if_pos rfl,Ae (by rw [Ij];unfold Ns;rw [if_neg h0];omega)]
     ·rcases Mn hg ht.1 ht.2 with ⟨j,k1,k2,k3,k4⟩ | ⟨k1,k4⟩
      ·have:=Aa1 hok k1 k2 k3
       rw [Aa1 hok g1 g2 g3] at this
       rw [k4,this];rfl
      ·exact absurd g2 (k1 i g1)
    ·have hno:fcR a e=([],false):=Adg fun hh=>hh.2 g1
     rw [g4,hno]
     constructor
     ·rfl
     ·rcases Mn hg ht.1 ht.2 with ⟨j,k1,k2,k3,k4⟩ | ⟨k1,k4⟩
      ·exact absurd k2 (g1 j k1)
      ·rw [k4];rfl
   ·have hno:fcR a e=([],false):=Adg fun hh=>hm hh.1.2.2.2
    rw [decide_eq_false (show ¬(isT a e.Left∧isT a e.Right∧_) from fun hh=>hm hh.2.2),hno,Afy hg ht.1 ht.2 (by omega)]
    exact ⟨rfl,rfl⟩
  ·have hno:fcR a e=([],false):=Adg fun hh=>ht ⟨hh.1.2.1,hh.1.2.2.1⟩
   rw [decide_eq_false ht,decide_eq_false (show ¬(isT a e.Left∧isT a e.Right∧_) from fun hh=>ht ⟨hh.1,hh.2.1⟩),hno]
   exact ⟨rfl,rfl⟩
 ·have hno:fcR a e=([],false):=Adg fun hh=>hg hh.1.1
  rw [decide_eq_false hg,hno]
  exact ⟨rfl,rfl⟩
theorem Aqj (hg:B8 a) (hl:isT a e.Left) (hr:isT a e.Right) (vl : ∀x∈e.Left,x<(3:Int)) (vr : ∀x∈e.Right,x<(3:Int)):Ed a e↔Nt a e.Left 3=Nt a e.Right 3:=by
 have h1:=hg.1
 have hn:0<a.Size.toNat:=by omega
 have mem3 : ∀x∈e.Left++e.Right,x<(3:Int):=fun x hx=>(List.mem_append.1 hx).elim (vl x) (vr x)
 have tabN : ∀ {t:List Int} {i:Nat},i<a.Size.toNat^3→nth (Nt a t 3) i=Hm a (Gi a.Size.toNat 3 i) t:=fun {t i} hi=>by
  unfold Nt
  rw [Pw _ (by simpa using hi),X6 hi]
 constructor
 ·intro h
  refine Tp (by rw [Xs,Xs]) fun i hi=> ?_
  rw [Xs] at hi
  rw [tabN hi,tabN hi]
  have win:C6 (Gi a.Size.toNat 3 i) a.Size.toNat:=Xi hn 3 i
  have wlen:=Ll a.Size.toNat 3 i
  generalize Gi a.Size.toNat 3 i=w at win wlen
  have hx:C6 ((vL e).map fun x=>nth w x.toNat) a.Size.toNat:=fun z hz=>by
   obtain ⟨x,hx,rfl⟩:=List.mem_map.1 hz
   unfold vL at hx
   obtain ⟨y,y1,y2,rfl⟩:=Hf.1 hx
   have:=mem3 _ (of_decide_eq_true y2)
   exact win _ (Bk (by rw [wlen];omega))
  have hlen:((vL e).map fun x=>nth w x.toNat).length=(vL e).length:=by simp
  obtain ⟨c,hc1,hc2⟩:=Aa2 hx
  rw [hlen] at hc2
  have hb:=h c hc2
  have ha:Gi a.Size.toNat (vL e).length c=(vL e).map fun x=>nth w x.toNat:=by
   have:=Afv hn (vL e).length _ hlen hx
   rwa [hc1,Int.toNat_natCast] at this
  have key : ∀t:List Int,isT a t→(∀x∈t,x∈e.Left++e.Right)→Hm a w t=Hm a (Jr a e c) t:=fun t ht hs=>Ac6 fun x hx h0=>by
   obtain ⟨k,hk,rfl⟩:=Aoy h0 (To ht x hx) (hs x hx)
   rw [Ams c hk,ha,Pw _ hk]
  rw [key _ hl (fun x hx=>by simp [hx]),key _ hr (fun x hx=>by simp [hx])]
  exact Classical.not_not.1 hb
 ·intro h i hi hb
  have vin:=Q9 (e:=e) hg i
  have vhl:=Ie (e:=e) hl (fun x hx=>by simp [hx]) i
  have vhr:=Ie (e:=e) hr (fun x hx=>by simp [hx]) i
  unfold I6 at hb
  generalize Jr a e i=v at vin vhl vhr hb
  have wl:((List.range 3).map fun z=>if z<v.length then nth v z else 0).length=3:=by simp
  have wa : ∀z,z<3→z<v.length→nth ((List.range 3).map fun z=>if z<v.length then nth v z else 0) z=nth v z:=fun z h3 hv=>by
   rw [Pw _ (by simpa using h3),X6 h3,if_pos hv]
  have win:C6 ((List.range 3).map fun z=>if z<v.length then nth v z else 0) a.Size.toNat:=fun x hx=>by
   obtain ⟨z,_,rfl⟩:=List.mem_map.1 hx
   split
   ·exact vin _ (Bk (by assumption))
   ·omega
  generalize ((List.range 3).map fun z=>if z<v.length then nth v z else 0)=w at wl wa win
  obtain ⟨c,hc1,hc2⟩:=Aa2 win
  rw [wl] at hc2
  have ha:Gi a.Size.toNat 3 c=w:=by
   have:=Afv hn 3 w wl win
   rwa [hc1,Int.toNat_natCast] at this
  have e1:nth (Nt a e.Left 3) c=nth (Nt a e.Right 3) c:=by rw [h]
  rw [tabN hc2,tabN hc2,ha] at e1
  refine hb ?_
  have key : ∀t:List Int,(∀x∈t,0≤x→x<(v.length:Int))→(∀x∈t,x<(3:Int))→Hm a v t=Hm a w t:=fun t h1 h2=>Ac6 fun x hx h0=>by
   have b1:=h1 x hx h0
   have b2:=h2 x hx
   rw [wa x.toNat (by omega) (by omega)]
  rw [key _ vhl vl,key _ vhr vr]
  exact e1
noncomputable def fbR (a:SAlgebra) (l:List SIdentity):Int×Bool:=
 if B8 a∧l.length≤20 ∧ ∀e∈l,okI a e then (if h : ∃i,i<l.length∧¬Ed a (nth l i) ∧ ∀j,j<i→Ed a (nth l j) then ((Classical.choose h:Nat):Int) else -1,true) else (0,false)
theorem Ac1 (h:okI a e):dhR a e=(decide (Ed a e),true):=if_pos h
theorem Apv (h:¬okI a e):dhR a e=(false,false):=if_neg h
theorem Aqw (l:List SIdentity):(∃i,i<l.length∧¬Ed a (nth l i) ∧ ∀j,j<i→Ed a (nth l j)) ∨ ∀i,i<l.length→Ed a (nth l i):=by
 by_cases hx : ∃i,i<l.length∧¬Ed a (nth l i)
 ·obtain ⟨i0,h1,h2⟩:=hx
  obtain ⟨i,g1,g2,g3⟩:=P1 (fun i=>¬Ed a (nth l i)) i0 h2
  exact .inl ⟨i,by omega,g2,fun j hj=>Classical.not_not.1 (g3 j hj)⟩
 ·exact .inr fun i hi=>Classical.byContradiction fun hh=>hx ⟨i,hi,hh⟩
theorem Yk (hsm:Oz a) {l:List SIdentity} (hl : ∀e∈l,e.Left.length≤1000):Ey a l=some (fbR a l)∧E6 a l=some (fbR a l):=by
 unfold Ey E6
 rw [N9 hsm,Nd hsm]
 simp only [Option.bind_some]
 by_cases hg:B8 a
 ·rw [decide_eq_true hg]
  simp only [if_true]
  by_cases h20:l.length≤20
  ·rw [if_neg (by omega)]
   simp only [Option.bind_some]
   by_cases hall : ∀e∈l,okI a e
   ·have e1:fbR a l=(if h : ∃i,i<l.length∧¬Ed a (nth l i) ∧ ∀j,j<i→Ed a (nth l j) then ((Classical.choose h:Nat):Int) else -1,true):=if_pos ⟨hg,h20,hall⟩
    have okn : ∀i,i<l.length→okI a (nth l i):=fun i hi=>hall _ (Bk hi)
    have asked : ∀i,i<l.length→Eb a (nth l i)=some true:=fun i hi=>by
     rw [Pu hg (hl _ (Bk hi)),decide_eq_true (okn i hi).2]
    have holds : ∀i,i<l.length→Ec a (nth l i)=some (decide (Ed a (nth l i))):=fun i hi=>by
     have:=(Ii hsm (hl _ (Bk hi))).2
     unfold Fe at this
     rw [Nd hsm,decide_eq_true hg] at this
     simp only [Option.bind_some,if_true] at this
     rw [asked i hi,Ac1 (okn i hi)] at this
     simp only [Option.bind_some,if_true] at this
     obtain ⟨r,hr⟩ : ∃r,Ec a (nth l i)=some r:=by
      cases hh:Ec a (nth l i) with
      | none=>rw [hh] at this;cases this
      | some r=>exact ⟨r,rfl⟩
     rw [hr] at this ⊢
     simpa using this
    have stepI : ∀(i:Nat) (x:Int),i<l.length→A4 a l ((i:Int),x)=some (.inl (((i+1:Nat):Int),if Ed a (nth l i) then x else if x<0 then (i:Int) else x)):=fun i x hi=>by
     unfold A4
     dsimp only
     rw [if_pos (by omega),Ae (by omega),Int.toNat_natCast,(Ii hsm (hl _ (Bk hi))).1,Ac1 (okn i hi)]
     simp only [Option.bind_some,if_true]
     by_cases hh:Ed a (nth l i)
     ·rw [decide_eq_true hh,if_pos rfl,if_pos hh,Ae (by unfold InI;omega)];rfl
     ·rw [decide_eq_false hh,if_neg (by simp),if_neg hh]
      by_cases hx:x<0
      ·rw [if_pos hx,if_pos hx,Ae (by unfold InI;omega)];rfl
      ·rw [if_neg hx,if_neg hx,Ae (by unfold InI;omega)];rfl
    have endI : ∀x:Int,A4 a l ((l.length:Int),x)=some (.inr (.inr x)):=fun x=>by
     unfold A4
     dsimp only
     rw [if_neg (by omega)]
    have askL:Ay (Bi a l) 0=some (.inr ()):=Bq (body:=Bi a l) (fun i=>(i:Int)) l.length (.inr ()) (fun i hi=>by
     unfold Bi
     rw [if_pos (by omega),Ae (by omega),Int.toNat_natCast,asked i hi]
     simp only [Option.bind_some,if_true]
     rw [Ae (by unfold InI;omega)];rfl) (by
     unfold Bi
     rw [if_neg (by omega)])
    have stepS : ∀i,i<l.length→Bm a l (i:Int)=if Ed a (nth l i) then some (.inl ((i+1:Nat):Int)) else some (.inr (.inl (i:Int))):=fun i hi=>by
     unfold Bm
     rw [if_pos (by omega),Ae (by omega),Int.toNat_natCast,holds i hi]
     simp only [Option.bind_some]
     by_cases hh:Ed a (nth l i)
     ·rw [decide_eq_true hh,if_pos rfl,if_pos hh,Ae (by unfold InI;omega)];rfl
     ·rw [decide_eq_false hh,if_neg (by simp),if_neg hh]
    rw [askL,e1]
    simp only [Option.bind_some]
    rcases Aqw (a:=a) l with hx | hn
    ·have hc:=Classical.choose_spec hx
     obtain ⟨c1,c2,c3⟩:=hc
     rw [dif_pos hx]
     generalize Classical.choose hx=i at c1 c2 c3
     have li:Ay (A4 a l) (((0:Nat):Int), -1)=some (.inr (i:Int)):=by
      have:=Bq (body:=A4 a l) (fun k=>((k:Int),if k≤i then (-1:Int) else (i:Int))) l.length (.inr (i:Int)) (fun k hk=>by
       rw [stepI k _ hk]
       congr 3
       by_cases hki:k≤i
       ·rw [if_pos hki]
        by_cases hk2:k=i
        ·subst hk2;rw [if_neg c2,if_pos (by omega),if_neg (by omega)]
        ·rw [if_pos (c3 k (by omega)),if_pos (by omega)]
       ·rw [if_neg hki,if_neg (show ¬k+1≤i by omega)]
        split
        ·rfl
        ·rw [if_neg (by omega)]) (by rw [endI,if_neg (by omega)])
      simpa using this
     have ls:Ay (Bm a l) 0=some (.inl (i:Int)):=Bq (body:=Bm a l) (fun i=>(i:Int)) i (.inl (i:Int)) (fun k hk=>by rw [stepS k (by omega),if_pos (c3 k hk)]) (by rw [stepS i c1,if_neg c2])
     have li':Ay (A4 a l) (0, -1)=_:=li
     rw [li',ls]
     exact ⟨rfl,rfl⟩
    ·have hx:¬ ∃i,i<l.length∧¬Ed a (nth l i) ∧ ∀j,j<i→Ed a (nth l j):=fun ⟨i,h1,h2,_⟩=>h2 (hn i h1)
     rw [dif_neg hx]
     have li:Ay (A4 a l) (((0:Nat):Int), -1)=some (.inr (-1)):=Bq (body:=A4 a l) (fun k=>((k:Int),(-1:Int))) l.length (.inr (-1)) (fun k hk=>by rw [stepI k _ hk,if_pos (hn k hk)]) (endI (-1))
     have ls:Ay (Bm a l) 0=some (.inr ()):=Bq (body:=Bm a l) (fun i=>(i:Int)) l.length (.inr ()) (fun k hk=>by rw [stepS k hk,if_pos (hn k hk)]) (by
      unfold Bm
      rw [if_neg (by omega)])
     have li':Ay (A4 a l) (0, -1)=_:=li
     rw [li',ls]
     exact ⟨rfl,rfl⟩
   ·have e1:fbR a l=(0,false):=if_neg fun hh=>hall hh.2.2
    rw [e1]
    have : ∃i,i<l.length∧¬okI a (nth l i):=Classical.byContradiction fun hh=>hall fun e he=>by
     obtain ⟨i,hi,rfl⟩:=Io.1 he
     exact Classical.byContradiction fun h=>hh ⟨i,hi,h⟩
    obtain ⟨i0,h1,h2⟩:=this
    obtain ⟨i,g1,g2,g3⟩:=P1 (fun i=>¬okI a (nth l i)) i0 h2
    have hil:i<l.length:=by omega
    have ls:Ay (Bi a l) 0=some (.inl ()):=Bq (body:=Bi a l) (fun i=>(i:Int)) i (.inl ()) (fun k hk=>by
     have ok:=Classical.not_not.1 (g3 k hk)
     unfold Bi
     rw [if_pos (by omega),Ae (by omega),Int.toNat_natCast,Pu hg (hl _ (Bk (by omega))),decide_eq_true ok.2]
     simp only [Option.bind_some,if_true]
     rw [Ae (by unfold InI;omega)];rfl) (by
     unfold Bi
     rw [if_pos (by omega),Ae (by omega),Int.toNat_natCast,Pu hg (hl _ (Bk (by omega))),decide_eq_false (fun hh=>g2 ⟨hg,hh⟩)]
     rfl)
    rw [ls]
    refine ⟨?_,rfl⟩
    obtain ⟨t,ht,hp⟩:=Ig (body:=A4 a l) (fun s => ∃k:Nat,s.1=(k:Int)∧k≤i) (fun s=>l.length-s.1.toNat) (fun t=>t = .inl ()) (fun s hs=>by
     obtain ⟨x21,x6⟩:=s
     obtain ⟨k,hk,hki⟩:=hs
     simp only at hk
     subst hk
     unfold A4
     dsimp only
     rw [if_pos (by omega),Ae (by omega),Int.toNat_natCast,(Ii hsm (hl _ (Bk (by omega)))).1]
     simp only [Option.bind_some]
     by_cases hk2:k=i
     ·right
      subst hk2
      rw [Apv g2]
      exact ⟨_,rfl,rfl⟩
     ·left
      have ok:=Classical.not_not.1 (g3 k (by omega))
      rw [Ac1 ok]
      simp only [if_true]
      rw [Ae (by unfold InI;omega),Ae (by unfold InI;omega)]
      have hb : ∃x':Int,(if decide (Ed a (nth l k))=true then some (Sum.inl ((k:Int)+1,x6)) else if x6<0 then some (Sum.inl ((k:Int)+1,(k:Int))) else some (Sum.inl ((k:Int)+1,x6)):Option ((Int×Int) ⊕ (Unit ⊕ Int)))=some (Sum.inl ((k:Int)+1,x')):=by
       split
       ·exact ⟨_,rfl⟩
       ·split
        ·exact ⟨_,rfl⟩
        ·exact ⟨_,rfl⟩
      obtain ⟨x',ex⟩:=hb
      rw [ex]
      exact ⟨_,rfl,⟨k+1,rfl,by omega⟩,by simp only;omega⟩) (s:=((0:Int), -1)) ⟨0,rfl,by omega⟩
    subst hp
    rw [ht]
    rfl
  ·have e1:fbR a l=(0,false):=if_neg fun hh=>h20 hh.2.1
   rw [if_pos (by omega),e1]
   exact ⟨rfl,rfl⟩
 ·have e1:fbR a l=(0,false):=if_neg fun hh=>hg hh.1
  rw [decide_eq_false hg,e1]
  exact ⟨rfl,rfl⟩
end
end Go.Proofs.Ytmcbocbcpijgeaa.Ax
namespace Go.Proofs.Ytmcbocbcpijgeaa.Ax
open Go Classical
theorem Va {c:Sl1Cur} {k:Nat} (h:Cur k c) (hk:k≤300000000) {a:SAlgebra} (ha:Og a) : ∃e d,C5 c a=some (e,d)∧Cur (k+2000) d∧e.Left.length≤41∧e.Right.length≤41:=by
 have hL:=B5
 have h10:=ha.1
 unfold C5
 obtain ⟨r1,u2,e1,hd1,l1⟩:=Afn h (by omega) ha
 rw [e1]
 simp only [Option.bind_some]
 obtain ⟨r3,u4,e2,hd2,l2⟩:=Afn hd1 (by omega) ha
 rw [e2]
 simp only [Option.bind_some]
 obtain ⟨r5,e3,hr5⟩ : ∃r5,Ea 1 (a.Ops.length:Int)=some r5∧(r5=1∨r5=(a.Ops.length:Int))∧1≤r5∧(a.Ops.length:Int)≤r5:=by
  unfold Ea
  split
  ·exact ⟨_,rfl,by omega⟩
  ·exact ⟨_,rfl,by omega⟩
 rw [e3]
 simp only [Option.bind_some]
 obtain ⟨r6,u7,e4,hd3,p1,p2⟩:=Dq hd2 (by omega) r5
 rw [e4]
 simp only [Option.bind_some]
 rw [Nd (N3 ha)]
 simp only [Option.bind_some]
 have mid : ∃b d,(if decide (B8 a)=true then
   (if (a.Ops.length:Int)>0 then
    ask (0≤r6∧r6<(a.Ops.length:Int)) <|
    (if (nth a.Ops r6.toNat).Arity=2 then
     (Cf (u7) (3)).bind fun (r13,u14)=>
     some (!r13,u14)
    else
     some (false,u7))
   else
    some (false,u7))
   else
   some (false,u7):Option (Bool×Sl1Cur))=some (b,d)∧Cur (k+1300) d:=by
  by_cases hg:B8 a
  ·rw [decide_eq_true hg,if_pos rfl]
   by_cases h0:(a.Ops.length:Int)>0
   ·rw [if_pos h0,Ae (by omega)]
    by_cases h2:(nth a.Ops r6.toNat).Arity=2
    ·rw [if_pos h2]
     obtain ⟨b,d,e5,hd5⟩:=Sx hd3 (by omega) 3
     rw [e5]
     exact ⟨_,_,rfl,hd5.mono (by omega)⟩
    ·rw [if_neg h2]
     exact ⟨_,_,rfl,hd3.mono (by omega)⟩
   ·rw [if_neg h0]
    exact ⟨_,_,rfl,hd3.mono (by omega)⟩
  ·rw [decide_eq_false hg,if_neg (by simp)]
   exact ⟨_,_,rfl,hd3.mono (by omega)⟩
 obtain ⟨b,d,e5,hd5⟩:=mid
 rw [e5]
 simp only [Option.bind_some]
 by_cases hb:b=true
 ·rw [if_pos hb,Ae (by unfold InI;omega)]
  obtain ⟨r18,u19,e6,hd6,_⟩:=Dq hd5 (by omega) 5
  rw [e6]
  simp only [Option.bind_some]
  split
  ·exact ⟨_,_,rfl,hd6.mono (by omega),by simp,by simp⟩
  ·split
   ·exact ⟨_,_,rfl,hd6.mono (by omega),by simp,by simp⟩
   ·split
    ·exact ⟨_,_,rfl,hd6.mono (by omega),by simp,by simp⟩
    ·split
     ·exact ⟨_,_,rfl,hd6.mono (by omega),by simp,by simp⟩
     ·exact ⟨_,_,rfl,hd6.mono (by omega),by simp,by simp⟩
 ·rw [if_neg hb]
  exact ⟨_,_,rfl,hd5.mono (by omega),by omega,by omega⟩
theorem Aed {code:List Int} (hc : ∀x∈code,0≤x∧x≤255) (hl:code.length≤65536) : ∃a e,Ek code=some (a,e)∧Og a∧e.Left.length≤41∧e.Right.length≤41:=by
 unfold Ek
 obtain ⟨a,d,e,hd,ha⟩:=Xr (Amg hc hl) (by omega)
 rw [e]
 simp only [Option.bind_some]
 obtain ⟨x,d2,e2,_,h1,h2⟩:=Va hd (by omega) ha
 rw [e2]
 exact ⟨_,_,rfl,ha,h1,h2⟩
theorem Yf {code:List Int} (hc : ∀x∈code,0≤x∧x≤255) (hl:code.length≤65536) : ∃a l,Dp code=some (a,l)∧Og a∧l.length≤30 ∧ ∀e∈l,e.Left.length≤41:=by
 have hL:=B5
 unfold Dp
 obtain ⟨a,d,e,hd,ha⟩:=Xr (Amg hc hl) (by omega)
 rw [e]
 simp only [Option.bind_some]
 obtain ⟨r3,u4,e2,hd2,p1,p2⟩:=Dq hd (by omega) 5
 rw [e2]
 simp only [Option.bind_some]
 obtain ⟨t,rfl,ht⟩ : ∃t:Nat,r3=(t:Int)∧t≤5:=⟨r3.toNat,by omega,by omega⟩
 obtain ⟨⟨l,d3⟩,e3,h3,h4,h5⟩:=Ig (body:=Cy a) (fun s => ∃j:Nat,s.1=(j:Int)∧s.2.1.length+j≤5∧(∀r∈s.2.1,r.Left.length≤41)∧Cur (2000+2000*s.2.1.length) s.2.2) (fun s=>s.1.toNat) (fun u=>u.1.length≤5∧(∀r∈u.1,r.Left.length≤41)∧Cur 20000 u.2) (fun s hs=>by
  obtain ⟨x7,x6,x4⟩:=s
  obtain ⟨j,g1,g2,g3,g4⟩:=hs
  simp only at g1 g2 g3 g4
  subst g1
  unfold Cy
  dsimp only
  by_cases hj:(j:Int)>0
  ·left
   rw [if_pos hj]
   obtain ⟨r6,u7,e8,h8,h9,_⟩:=Va g4 (by omega) ha
   rw [e8]
   simp only [Option.bind_some]
   rw [Ae (by simp;omega),Ae (by unfold InI;omega)]
   refine ⟨_,rfl,⟨j-1,by simp only;omega,by simp;omega,fun r hr=> ?_,h8.mono (by simp;omega)⟩,by simp only;omega⟩
   rcases List.mem_append.1 hr with hr | hr
   ·exact g3 r hr
   ·rw [List.mem_singleton.1 hr];exact h9
  ·right
   rw [if_neg hj]
   exact ⟨_,rfl,by simp only;omega,g3,g4.mono (by omega)⟩) (s:=((t:Int),A8 SIdentity,u4)) ⟨t,rfl,by simp [A8];omega,by simp [A8],by simpa [A8] using hd2.mono (by omega)⟩
 rw [e3]
 simp only [Option.bind_some]
 simp only at h3 h4 h5
 obtain ⟨b,d4,e4,hd4⟩:=Sx h5 (by omega) 32
 rw [e4]
 simp only [Option.bind_some]
 by_cases hb:b=true
 ·rw [if_pos hb]
  obtain ⟨l2,e5,h6,h7⟩:=Ig (body:=Cw a) (fun s=>s.1.length≤21∧(∀r∈s.1,r.Left.length≤41)∧Cur (30000+2*s.1.length) s.2) (fun s=>30-s.1.length) (fun u=>u.length≤30 ∧ ∀r∈u,r.Left.length≤41) (fun s hs=>by
   obtain ⟨x6,x4⟩:=s
   obtain ⟨g1,g2,g3⟩:=hs
   simp only at g1 g2 g3
   unfold Cw
   dsimp only
   obtain ⟨r13,u14,e8,h8,q1,q2⟩:=Dq g3 (by omega) 2
   rw [e8]
   simp only [Option.bind_some]
   rw [Ae (by unfold InI;omega)]
   by_cases hx:(x6.length:Int)<20+r13
   ·left
    rw [if_pos hx,Ae (by simp;omega)]
    refine ⟨_,rfl,⟨by simp;omega,fun r hr=> ?_,h8.mono (by simp;omega)⟩,by simp;omega⟩
    rcases List.mem_append.1 hr with hr | hr
    ·exact g2 r hr
    ·rw [List.mem_singleton.1 hr];simp
   ·right
    rw [if_neg hx]
    exact ⟨_,rfl,by omega,g2⟩) (s:=(l,d4)) ⟨by simp only;omega,h4,hd4.mono (by simp only;omega)⟩
  rw [e5]
  exact ⟨_,_,rfl,ha,h6,h7⟩
 ·rw [if_neg hb]
  exact ⟨_,_,rfl,ha,by omega,h4⟩
end Go.Proofs.Ytmcbocbcpijgeaa.Ax
