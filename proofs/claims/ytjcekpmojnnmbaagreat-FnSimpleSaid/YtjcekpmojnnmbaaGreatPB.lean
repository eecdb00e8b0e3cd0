/-
 Plain facts, joined.
-/
import Derived.Test.YtjcekpmojnnmbaaGreatPA
import Derived.Test.YtjcekpmojnnmbaaGreatSo3
namespace Go.Proofs.YtjcekpmojnnmbaaGreat.Ax
open Go Classical
def A6a (m i:Nat):Bool:=decide (m/2^i%2=1)
def Ns (a b:List Int):Prop := ∃i,i<a.length∧(∀j,j<i→nth a j=nth b j)∧nth a i<nth b i
theorem A1e {a b:List Int} (hl:a.length=b.length) (h:a.length≤LIM):J6 a b=some (decide (Ns a b)):=by
 unfold J6
 rw [Bn] at h
 rw [show ((0:Int))=(((0:Nat)):Int) from rfl]
 rcases Afh (body:=Ei a b) (fun i=>(i:Int)) a.length (fun i=>nth a i≠nth b i) (fun i=> .inl (decide (nth a i<nth b i))) (.inr ()) (fun i hi hh=>by
   unfold Ei
   rw [if_pos (by omega),Ae (by omega),Ae (by omega),tna0,if_neg hh,Ae (by unfold InI;omega)];rfl) (fun i hi hh=>by
   unfold Ei
   rw [if_pos (by omega),Ae (by omega),Ae (by omega),tna0,if_pos hh,Ae (by omega),Ae (by omega)]) (by
   unfold Ei
   rw [if_neg (by omega)]) with ⟨i,hi,hh,hf,e⟩ | ⟨hn,e⟩
 ·rw [e]
  simp only [obs0]
  congr 1
  rw [decide_eq_decide]
  constructor
  ·intro hlt
   exact ⟨i,hi,fun j hj=>Classical.not_not.1 (hf j hj),hlt⟩
  ·rintro ⟨k,hk,h1,h2⟩
   rcases Nat.lt_trichotomy k i with hki | hki | hki
   ·have:=Classical.not_not.1 (hf k hki);omega
   ·subst hki;exact h2
   ·exact absurd (h1 i hki) hh
 ·rw [e,dfa0]
  ·rfl
  ·rintro ⟨k,hk,_,h2⟩
   have:=Classical.not_not.1 (hn k hk);omega
theorem Ajb {a b:List Int} (hl:a.length=b.length) (h:a.length≤LIM) : ∃c,Fp a b=some c∧(¬c≥0↔Ns a b):=by
 unfold Fp
 rw [Bn] at h
 rw [show ((0:Int))=(((0:Nat)):Int) from rfl]
 rcases Afh (body:=Cg a b) (fun i=>(i:Int)) a.length (fun i=>nth a i≠nth b i) (fun i=> .inl (if nth a i<nth b i then -1 else 1)) (.inr ()) (fun i hi hh=>by
   unfold Cg
   rw [if_pos (by omega),if_pos (by omega)]
   simp only [obs0]
   rw [Ae (by omega),Ae (by omega),tna0,if_neg hh,Ae (by unfold InI;omega)];rfl) (fun i hi hh=>by
   unfold Cg
   rw [if_pos (by omega),if_pos (by omega)]
   simp only [obs0]
   rw [Ae (by omega),Ae (by omega),tna0,if_pos hh,Ae (by omega),Ae (by omega)]
   split<;>rfl) (by
   unfold Cg
   rw [if_neg (by omega)];rfl) with ⟨i,hi,hh,hf,e⟩ | ⟨hn,e⟩
 ·rw [e]
  refine ⟨_,rfl,?_⟩
  constructor
  ·intro hlt
   refine ⟨i,hi,fun j hj=>Classical.not_not.1 (hf j hj),?_⟩
   by_cases hc:nth a i<nth b i
   ·exact hc
   ·rw [if_neg hc] at hlt;omega
  ·rintro ⟨k,hk,h1,h2⟩
   have hki:k=i:=by
    rcases Nat.lt_trichotomy k i with hki | hki | hki
    ·have:=Classical.not_not.1 (hf k hki);omega
    ·exact hki
    ·exact absurd (h1 i hki) hh
   subst hki
   rw [if_pos h2];omega
 ·rw [e]
  simp only [obs0]
  rw [if_neg (by omega),if_neg (by omega)]
  refine ⟨_,rfl,?_⟩
  constructor
  ·intro hc;omega
  ·rintro ⟨k,hk,_,h2⟩
   have:=Classical.not_not.1 (hn k hk);omega
def anti (f:Nat→Nat→Bool) (ls:List Int):Prop := ∀x∈ls,∀y∈ls,¬(x.toNat≠y.toNat∧f x.toNat y.toNat=true)
section
end
end Go.Proofs.YtjcekpmojnnmbaaGreat.Ax
namespace Go.Proofs.YtjcekpmojnnmbaaGreat.Ax
open Go Classical
def pc (n m:Nat):Nat:=(Ct n (A6a m)).length
theorem Axw {q q':Nat→Bool} {x:Nat} (hq:q x=false) (h : ∀i,q' i=(q i || decide (x=i))) : ∀n,(Ct n q').length=(Ct n q).length+if x<n then 1 else 0:=by
 intro n
 induction n with
 | zero=>simp [Ct]
 | succ n ih=>
   rw [Re,Re,h n]
   by_cases hxn:x=n
   ·subst hxn
    rw [hq]
    simp only [decide_true,Bool.or_true,if_true,Bool.false_eq_true,if_false]
    rw [List.length_append,ih,if_neg (by omega),if_pos (by omega)];rfl
   ·rw [dfa0 hxn,Bool.or_false]
    by_cases hqn:q n=true
    ·rw [if_pos hqn,if_pos hqn,List.length_append,List.length_append,ih]
     by_cases hx:x<n
     ·rw [if_pos hx,if_pos (by omega)];simp
     ·rw [if_neg hx,if_neg (by omega)];rfl
    ·rw [if_neg hqn,if_neg hqn,ih]
     by_cases hx:x<n
     ·rw [if_pos hx,if_pos (by omega)]
     ·rw [if_neg hx,if_neg (by omega)]
def wt (n m:Nat):Nat:=10^(10-pc n m)
def phi (n:Nat) (ws:List Int):Nat→Nat→Int
 | _,0=>0
 | M,k+1=>nth ws M*wt n M+phi n ws (M+1) k
section
variable {n:Nat} {f:Nat→Nat→Bool}
structure okW (n m:Nat) (ws:List Int):Prop where
 len:ws.length=2^n
 pos : ∀i,i<ws.length→0≤nth ws i
 sum:phi n ws m (2^n-m)≤10000000000
end
section
end
end Go.Proofs.YtjcekpmojnnmbaaGreat.Ax
namespace Go.Proofs.YtjcekpmojnnmbaaGreat.Ax
open Go Classical
section
variable {n:Nat} {ps:List (Int×Int)}
end
end Go.Proofs.YtjcekpmojnnmbaaGreat.Ax
namespace Go.Proofs.YtjcekpmojnnmbaaGreat.Ax
open Go Classical
theorem Ar0 (xs:List Int) (h:xs.length≤LIM):Hw xs=some xs:=by
 unfold Hw
 rw [Ae (by simp [Aw];exact h)]
 rfl
section
variable {n:Nat} {f:Nat→Nat→Bool}
end
section
end
end Go.Proofs.YtjcekpmojnnmbaaGreat.Ax
namespace Go.Proofs.YtjcekpmojnnmbaaGreat.Ax
open Go Classical
noncomputable def round (n:Nat) (g h:Nat→Nat→Nat) (S:Nat→Bool):Nat→Bool:=fun z=>decide (S z=true ∨ ∃x y,x<n∧y<n∧S x=true∧S y=true∧(z=g x y∨z=h x y))
noncomputable def An6 (n:Nat) (g h:Nat→Nat→Nat) (S:Nat→Bool):Nat→Nat→Bool
 | 0=>S
 | k+1=>round n g h (An6 n g h S k)
section
variable {n:Nat} {g h:Nat→Nat→Nat} {S:Nat→Bool}
def A6d (n:Nat) (g h:Nat→Nat→Nat) (S:Nat→Bool) (k:Nat):Prop := ∀z,z<n→An6 n g h S (k+1) z=An6 n g h S k z
noncomputable def closed (n:Nat) (g h:Nat→Nat→Nat) (S:Nat→Bool):Nat→Bool:=An6 n g h S n
theorem Au4 {xs:List Int} (hx:Eo xs n) (hr:Aab xs):Ct n (fun z=>decide ((z:Int)∈xs))=xs:=by
 refine Aw7 (Aqt _ _) hr fun x=> ?_
 rw [U3]
 constructor
 ·rintro ⟨i,_,h1,rfl⟩;simpa using h1
 ·intro h1
  have:=hx x h1
  exact ⟨x.toNat,by omega,by simpa [show ((x.toNat:Nat):Int)=x by omega] using h1,by omega⟩
def A58 (n:Nat) (S:Nat→Bool):List Nat:=(List.range n).filter S
end
end Go.Proofs.YtjcekpmojnnmbaaGreat.Ax
namespace Go.Proofs.YtjcekpmojnnmbaaGreat.Ax
open Go Classical
theorem Adz {xs ys:List Int} (h:xs.length≤LIM):Fv xs ys=some (decide (xs=ys)):=by
 unfold Fv
 rw [Bn] at h
 split
 ·rename_i hl
  rw [dfa0]
  rintro rfl;exact hl rfl
 rename_i hl
 have hl:xs.length=ys.length:=by omega
 have:=H5 (body:=Ek xs ys) (fun i=>(i:Int)) xs.length (fun i=>¬nth xs i=nth ys i) () () (fun i hi hb=>by
  unfold Ek
  rw [if_pos (by omega),Ae (by omega),Ae (by omega)]
  simp only [tna0]
  rw [if_neg (by simpa using hb),Ae (by unfold InI;omega)];rfl) (fun i hi hb=>by
  unfold Ek
  rw [if_pos (by omega),Ae (by omega),Ae (by omega)]
  simp only [tna0]
  rw [if_pos hb]) (by unfold Ek;rw [if_neg (by omega)]) 0 (by omega)
 show ((Al _ ((0:Nat):Int)).bind _)=_
 rw [this]
 by_cases hx : ∃i,0≤i∧i<xs.length∧¬nth xs i=nth ys i
 ·rw [if_pos hx,dfa0]
  ·rfl
  ·rintro rfl;obtain ⟨i,_,_,hc⟩:=hx;exact hc rfl
 ·rw [if_neg hx,dtr0 (Lm hl (J4.1 hx))]
  rfl
section
end
end Go.Proofs.YtjcekpmojnnmbaaGreat.Ax
namespace Go.Proofs.YtjcekpmojnnmbaaGreat.Ax
open Go Classical
def Rb (a:SAlgebra):Prop:=a.Ops.length≤1048576 ∧ ∀f∈a.Ops,f.Table.length≤1048576
end Go.Proofs.YtjcekpmojnnmbaaGreat.Ax
namespace Go.Proofs.YtjcekpmojnnmbaaGreat.Ax
open Go Classical
def Asp (n:Nat) (f:SOp):Prop:=0≤f.Arity∧f.Arity≤3∧f.Table.length=n^f.Arity.toNat∧Eo f.Table n
def Cf (a:SAlgebra):Prop:=1≤a.Size∧a.Size≤8∧a.Ops.length≤4 ∧ ∀f∈a.Ops,Asp a.Size.toNat f
theorem Xt {n k:Nat} (hn:n≤8) (hk:k≤3):n^k≤512:=
 Nat.le_trans (Nat.pow_le_pow_left hn k) (Nat.le_trans (Nat.pow_le_pow_right (by omega) hk) (by decide))
theorem A3p {n k:Nat} (hn:n≤8) (hk:k≤3):Jd n k=some ((n^k:Nat):Int):=by
 unfold Jd
 have key:=Fm (body:=Fe n) (fun j=>(((n^j:Nat):Int),((k:Int)-(j:Int)))) k ((n^k:Nat):Int) (fun j hj=>by
  unfold Fe
  dsimp only
  have hp:=Xt hn (show j+1≤3 by omega)
  rw [Nat.pow_succ] at hp
  rw [if_pos (by omega),←Int.natCast_mul,Nat.pow_succ]
  generalize n^j*n=N at hp ⊢
  rw [Ae (by unfold InI;omega),Ae (by unfold InI;omega),show ((k:Int)-(j:Int)-1)=(k:Int)-((j+1:Nat):Int) by omega]) (by
  unfold Fe
  dsimp only
  rw [if_neg (by omega)])
 have key':Al (Fe n) (1,(k:Int))=some ((n^k:Nat):Int):=by simpa using key
 rw [key'];rfl
theorem Au9 {n k:Nat} (hn:n≤8) (hk:k≤3):Hr n k=some ((n^k:Nat):Int):=by
 unfold Hr
 have key:=Fm (body:=Fk n) (fun j=>(((n^j:Nat):Int),((k:Int)-(j:Int)))) k ((n^k:Nat):Int) (fun j hj=>by
  unfold Fk
  dsimp only
  have hp:=Xt hn (show j+1≤3 by omega)
  rw [Nat.pow_succ] at hp
  rw [if_pos (by omega),←Int.natCast_mul,Nat.pow_succ]
  generalize n^j*n=N at hp ⊢
  rw [Ae (by unfold InI;omega),Ae (by unfold InI;omega),show ((k:Int)-(j:Int)-1)=(k:Int)-((j+1:Nat):Int) by omega]) (by
  unfold Fk
  dsimp only
  rw [if_neg (by omega)])
 have key':Al (Fk n) (1,(k:Int))=some ((n^k:Nat):Int):=by simpa using key
 rw [key'];rfl
theorem Azr {n:Nat} (hn:n≤8) {f:SOp} (hl:f.Table.length≤LIM):N6 f n=some (decide (Asp n f)):=by
 unfold N6
 by_cases h0:0≤f.Arity
 ·rw [if_pos (show f.Arity≥0 from h0)]
  by_cases h3:f.Arity≤3
  ·have e:Jd (n:Int) f.Arity=some ((n^f.Arity.toNat:Nat):Int):=by
    have:=A3p hn (k:=f.Arity.toNat) (by omega)
    rwa [show ((f.Arity.toNat:Nat):Int)=f.Arity by omega] at this
   rw [if_pos h3,e]
   simp only [obs0]
   by_cases hL:f.Table.length=n^f.Arity.toNat
   ·rw [if_pos (by rw [hL]),A1q _ _ hl]
    simp only [obs0]
    congr 1
    rw [decide_eq_decide]
    exact ⟨fun h=>⟨h0,h3,hL,h⟩,fun h=>h.2.2.2⟩
   ·rw [if_neg (fun hc=>hL (Int.ofNat_inj.1 hc)),dfa0 (fun h=>hL h.2.2.1)]
  ·rw [if_neg h3,dfa0 (fun h=>h3 h.2.1)]
 ·rw [if_neg (by omega),dfa0 (fun h=>h0 h.1)]
theorem A03 {n:Nat} (hn1:1≤n) (hn:n≤8) {f:SOp} (hl:f.Table.length≤LIM):N9 n f=some (decide (Asp n f)):=by
 unfold N9
 rw [Apw]
 simp only [obs0]
 by_cases h0:0≤f.Arity∧f.Arity≤3
 ·have e:Hr (n:Int) f.Arity=some ((n^f.Arity.toNat:Nat):Int):=by
   have:=Au9 hn (k:=f.Arity.toNat) (by omega)
   rwa [show ((f.Arity.toNat:Nat):Int)=f.Arity by omega] at this
  rw [dtr0 h0,if_pos rfl,e]
  simp only [obs0]
  by_cases hL:f.Table.length=n^f.Arity.toNat
  ·rw [if_neg (by rw [hL];simp)]
   simp only [obs0]
   have hl':=hl
   rw [Bn] at hl'
   have this:=H5 (body:=F8 n f) (fun i=>(i:Int)) f.Table.length (fun i=>¬(0≤nth f.Table i∧nth f.Table i≤(n:Int)-1)) () () (fun i hi hb=>by
    unfold F8
    rw [if_pos (by omega),Ae (by omega),Ae (by unfold InI;omega),Apw]
    simp only [tna0,obs0]
    rw [dtr0 (Classical.not_not.1 hb),if_pos rfl,Ae (by unfold InI;omega)];rfl) (fun i hi hb=>by
    unfold F8
    rw [if_pos (by omega),Ae (by omega),Ae (by unfold InI;omega),Apw]
    simp only [tna0,obs0]
    rw [dfa0 hb,if_neg (by simp)]) (by
    unfold F8
    rw [if_neg (by omega)]) 0 (by omega)
   refine (Na this false true).trans (congrArg some (Vg ?_))
   rw [J4]
   constructor
   ·intro h
    refine ⟨h0.1,h0.2,hL,fun x hx=> ?_⟩
    obtain ⟨i,hi,rfl⟩:=G6.1 hx
    have:=h i hi;omega
   ·intro h i hi
    have:=h.2.2.2 _ (Ak hi);omega
  ·rw [if_pos (fun hc=>hL (Int.ofNat_inj.1 hc)),dfa0 (fun h=>hL h.2.2.1)];rfl
 ·rw [dfa0 h0,if_neg (by simp),dfa0 (fun h=>h0 ⟨h.1,h.2.1⟩)];rfl
theorem Ya {a:SAlgebra} (h:Rb a):Hj a=some (decide (Cf a)):=by
 unfold Hj
 by_cases h1:a.Size<1
 ·rw [if_pos h1,dfa0 (fun hg=>by have:=hg.1;omega)];rfl
 rw [if_neg h1]
 by_cases h8:a.Size>8
 ·rw [if_pos h8,dfa0 (fun hg=>by have:=hg.2.1;omega)];rfl
 rw [if_neg h8]
 by_cases h4:(a.Ops.length:Int)>4
 ·rw [if_pos h4,dfa0 (fun hg=>by have:=hg.2.2.1;omega)];rfl
 rw [if_neg h4]
 simp only [obs0]
 obtain ⟨n,hn⟩:=Int.eq_ofNat_of_zero_le (show 0≤a.Size by omega)
 have this:=H5 (body:=C9 a) (fun i=>(i:Int)) a.Ops.length (fun i=>¬Asp n (nth a.Ops i)) () () (fun i hi hb=>by
  have hl:=h.2 _ (Ak hi)
  unfold C9
  rw [if_pos (by omega),Ae (by omega),tna0,hn,Azr (by omega) (by rw [Bn];omega)]
  simp only [obs0]
  rw [dtr0 (Classical.not_not.1 hb),if_pos rfl,Ae (by unfold InI;omega)];rfl) (fun i hi hb=>by
  have hl:=h.2 _ (Ak hi)
  unfold C9
  rw [if_pos (by omega),Ae (by omega),tna0,hn,Azr (by omega) (by rw [Bn];omega)]
  simp only [obs0]
  rw [dfa0 hb,if_neg (by simp)]) (by
  unfold C9
  rw [if_neg (by omega)]) 0 (by omega)
 refine (Na this false true).trans (congrArg some (Vg ?_))
 rw [J4]
 have hnn:a.Size.toNat=n:=by omega
 constructor
 ·intro hh
  refine ⟨by omega,by omega,by omega,fun f hf=> ?_⟩
  obtain ⟨i,hi,rfl⟩:=G6.1 hf
  rw [hnn];exact hh i hi
 ·intro hg i hi
  have:=hg.2.2.2 _ (Ak hi)
  rwa [hnn] at this
theorem Akz {a:SAlgebra} (h:Rb a):Js a=some (decide (Cf a)):=by
 unfold Js
 rw [Apw]
 simp only [obs0]
 by_cases h1:1≤a.Size∧a.Size≤8
 ·rw [dtr0 h1,if_pos rfl]
  by_cases h4:(a.Ops.length:Int)>4
  ·rw [if_pos h4,dfa0 (fun hg=>by have:=hg.2.2.1;omega)];rfl
  rw [if_neg h4]
  simp only [obs0]
  obtain ⟨n,hn⟩:=Int.eq_ofNat_of_zero_le (show 0≤a.Size by omega)
  have this:=H5 (body:=En a) (fun i=>(i:Int)) a.Ops.length (fun i=>¬Asp n (nth a.Ops i)) () () (fun i hi hb=>by
   have hl:=h.2 _ (Ak hi)
   unfold En
   rw [if_pos (by omega),Ae (by omega),tna0,hn,A03 (by omega) (by omega) (by rw [Bn];omega)]
   simp only [obs0]
   rw [dtr0 (Classical.not_not.1 hb),if_pos rfl,Ae (by unfold InI;omega)];rfl) (fun i hi hb=>by
   have hl:=h.2 _ (Ak hi)
   unfold En
   rw [if_pos (by omega),Ae (by omega),tna0,hn,A03 (by omega) (by omega) (by rw [Bn];omega)]
   simp only [obs0]
   rw [dfa0 hb,if_neg (by simp)]) (by
   unfold En
   rw [if_neg (by omega)]) 0 (by omega)
  refine (Na this false true).trans (congrArg some (Vg ?_))
  rw [J4]
  have hnn:a.Size.toNat=n:=by omega
  constructor
  ·intro hh
   refine ⟨by omega,by omega,by omega,fun f hf=> ?_⟩
   obtain ⟨i,hi,rfl⟩:=G6.1 hf
   rw [hnn];exact hh i hi
  ·intro hg i hi
   have:=hg.2.2.2 _ (Ak hi)
   rwa [hnn] at this
 ·rw [dfa0 h1,if_neg (by simp),dfa0 (fun hg=>h1 ⟨hg.1,hg.2.1⟩)];rfl
def Ast (a:SAlgebra):List Int:=a.Ops.map (·.Arity)
end Go.Proofs.YtjcekpmojnnmbaaGreat.Ax
namespace Go.Proofs.YtjcekpmojnnmbaaGreat.Ax
open Go Classical
def Dw (n:Nat):Nat→Nat→List Int
 | 0,_=>[]
 | r+1,k=>Dw n r (k/n)++[((k%n:Nat):Int)]
theorem Hb (n:Nat) : ∀r k,(Dw n r k).length=r:=by
 intro r
 induction r with
 | zero=>intro k;rfl
 | succ r ih=>intro k;simp [Dw,ih]
theorem Vq {n:Nat} (hn:0<n) : ∀r k,Eo (Dw n r k) n:=by
 intro r
 induction r with
 | zero=>intro k x hx;cases hx
 | succ r ih=>
   intro k x hx
   simp only [Dw] at hx
   rcases List.mem_append.1 hx with hx | hx
   ·exact ih _ x hx
   ·rw [List.mem_singleton.1 hx]
    have:=Nat.mod_lt k hn
    omega
theorem A3i {n:Nat} (hn:0<n) (hn8:n≤8) : ∀(r k:Nat) (xs:List Int),r≤xs.length→xs.length≤1000→k≤1048576→Al (El n) ((r:Int)-1,xs,(k:Int))=some (Dw n r k++xs.drop r):=by
 intro r
 induction r with
 | zero=>
   intro k xs _ _ _
   refine D4 ?_
   unfold El
   dsimp only
   rw [if_neg (by omega)]
   simp [Dw]
 | succ r ih=>
   intro k xs hr hl hk
   have c1:(k:Int).tdiv (n:Int)=((k/n:Nat):Int):=rfl
   have c2:(k:Int).tmod (n:Int)=((k%n:Nat):Int):=rfl
   have hd:k/n≤k:=Nat.div_le_self k n
   have step:El n (((r+1:Nat):Int)-1,xs,(k:Int))=some (.inl ((r:Int)-1,xs.set r ((k%n:Nat):Int),((k/n:Nat):Int))):=by
    unfold El
    dsimp only
    rw [show (((r+1:Nat):Int)-1)=(r:Int) by omega,c1,c2]
    generalize k/n=kd at hd
    rw [if_pos (by omega),Ae (by omega),Ae (by omega),Ae (by unfold InI;omega),Ae (by unfold InI;omega),tna0]
   rw [Gc step,ih _ _ (by rw [List.length_set];omega) (by rw [List.length_set];exact hl) (by omega)]
   congr 1
   simp only [Dw]
   rw [List.append_assoc]
   congr 1
   have e:(xs.set r ((k%n:Nat):Int)).drop r=((k%n:Nat):Int)::xs.drop (r+1):=by
    refine List.ext_getElem (by simp;omega) fun i h1 h2=> ?_
    rw [List.getElem_drop,List.getElem_set]
    cases i with
    | zero=>simp
    | succ i=>
      rw [if_neg (by omega),List.getElem_cons_succ,List.getElem_drop]
      congr 1;omega
   rw [e];rfl
theorem Ara {n r k:Nat} (hn:0<n) (hn8:n≤8) (hr:r≤3) (hk:k≤1048576):Ju n r k=some (Dw n r k):=by
 unfold Ju
 rw [Ae (by rw [Bn];omega),Ae (by unfold InI;omega),tna0,A3i hn hn8 r k _ (by simp) (by simp;omega) hk]
 simp
def U9 (m:Nat) (xs:List Int):Int:=xs.foldl (fun s x=>s*(m:Int)+x) 0
theorem La (m:Nat) (xs:List Int) (y:Int):U9 m (xs++[y])=U9 m xs*(m:Int)+y:=by
 unfold U9;rw [List.foldl_append];rfl
theorem Apr {m:Nat} : ∀(r:Nat) (xs:List Int),xs.length=r→Eo xs m → ∃c:Nat,U9 m xs=(c:Int)∧c<m^r:=by
 intro r
 induction r with
 | zero=>
   intro xs hl _
   have:xs=[]:=List.length_eq_zero_iff.1 hl
   subst this
   exact ⟨0,rfl,by simp⟩
 | succ r ih=>
   intro xs hl hx
   obtain ⟨ys,y,rfl⟩ : ∃ys y,xs=ys++[y]:=by
    refine ⟨xs.take r,nth xs r,?_⟩
    rw [←Lt (by omega),List.take_of_length_le (by omega)]
   have hy:=hx y (by simp)
   obtain ⟨c,h1,h2⟩:=ih ys (by simpa using hl) fun z hz=>hx z (by simp [hz])
   obtain ⟨d,rfl⟩:=Int.eq_ofNat_of_zero_le hy.1
   refine ⟨c*m+d,by rw [La,h1];push_cast;rfl,?_⟩
   have h3:=Nat.mul_le_mul_right m (show c+1≤m^r from h2)
   rw [Nat.succ_mul] at h3
   rw [Nat.pow_succ]
   omega
theorem Wa {m:Nat} (hm:m≤8) {xs:List Int} (hl:xs.length≤3) (hx:Eo xs m) : ∃c:Nat,U9 m xs=(c:Int)∧c<m^xs.length∧c<512:=by
 obtain ⟨c,h1,h2⟩:=Apr xs.length xs rfl hx
 have:=Xt hm hl
 exact ⟨c,h1,h2,by omega⟩
theorem Aw6 {m:Nat} {xs:List Int} {i:Nat} (hi:i<xs.length):U9 m (xs.take (i+1))=U9 m (xs.take i)*(m:Int)+nth xs i:=by
 rw [Lt hi,La]
theorem Ayb {m:Nat} (hm:m≤8) {xs:List Int} (hl:xs.length≤3) (hx:Eo xs m) {i:Nat} (hi:i<xs.length) :
  InI (U9 m (xs.take i)*(m:Int))∧InI (U9 m (xs.take i)*(m:Int)+nth xs i):=by
 obtain ⟨c,h1,_,h3⟩:=Wa hm (xs:=xs.take i) (by rw [List.length_take];omega) fun z hz=>hx z (List.mem_of_mem_take hz)
 have hv:=hx _ (Ak hi)
 have h4:c*m≤512*8:=Nat.mul_le_mul (by omega) hm
 rw [h1,←Int.natCast_mul]
 generalize c*m=d at h4
 unfold InI
 omega
theorem Avd {b:SAlgebra} {m:Nat} (hm:m≤8) (hb:b.Size=m) {i:Nat} (hi:i<b.Ops.length) {xs:List Int} (hl:xs.length≤3) (hx:Eo xs m) (hT:(nth b.Ops i).Table.length=m^xs.length) :
  It b i xs=some (nth (nth b.Ops i).Table (U9 m xs).toNat):=by
 unfold It
 have key:=Fm (body:=D3 b i xs) (fun j=>((j:Int),U9 m (xs.take j))) xs.length (U9 m xs) (fun j hj=>by
  unfold D3
  dsimp only
  obtain ⟨h1,h2⟩:=Ayb hm hl hx hj
  rw [hb,if_pos (by omega),Ae h1,Ae (by omega),tna0,Ae h2,Ae (by unfold InI;omega),Aw6 hj]
  rfl) (by
  unfold D3
  dsimp only
  rw [if_neg (by omega),List.take_length])
 have key':Al (D3 b i xs) (0,0)=_:=key
 rw [key']
 simp only [obs0]
 obtain ⟨c,h1,h2,_⟩:=Wa hm hl hx
 rw [Ae (by omega),tna0,Ae (by rw [h1,hT];omega)]
def A3r (n m:Nat) (f:List Int):Nat→Nat→Int
 | 0,_=>0
 | r+1,k=>A3r n m f r (k/n)*(m:Int)+nth f (k%n)
theorem A00 (n m:Nat) (f:List Int) : ∀r k,U9 m ((Dw n r k).map fun x=>nth f x.toNat)=A3r n m f r k:=by
 intro r
 induction r with
 | zero=>intro k;rfl
 | succ r ih=>
   intro k
   simp only [Dw,A3r,List.map_append,List.map_cons,List.map_nil,tna0]
   rw [La,ih]
theorem Ax8 {n m:Nat} (hn:0<n) {f:List Int} (hf:f.length=n) (hfx:Eo f m) (r k:Nat):Eo ((Dw n r k).map fun x=>nth f x.toNat) m:=by
 intro y hy
 obtain ⟨x,hx,rfl⟩:=List.mem_map.1 hy
 have:=Vq hn r k x hx
 exact hfx _ (Ak (by omega))
structure Homs (a b:SAlgebra) (f:List Int) (n m:Nat):Prop where
 ga:Cf a
 gb:Cf b
 ty:Ast a=Ast b
 sa:a.Size=n
 sb:b.Size=m
 len:f.length=n
 fin:Eo f m
section
variable {a b:SAlgebra} {f:List Int} {n m:Nat}
theorem Homs.ops (h:Homs a b f n m):a.Ops.length=b.Ops.length:=by
 have:=congrArg List.length h.ty
 simpa [Ast] using this
theorem Homs.op (h:Homs a b f n m) {i:Nat} (hi:i<a.Ops.length) : ∃r:Nat,r≤3∧(nth a.Ops i).Arity=r∧(nth b.Ops i).Arity=r∧(nth a.Ops i).Table.length=n^r∧(nth b.Ops i).Table.length=m^r∧Eo (nth a.Ops i).Table n∧n^r≤512:=by
 have hn:a.Size.toNat=n:=by have:=h.sa;omega
 have hm:b.Size.toNat=m:=by have:=h.sb;omega
 have hn8:n≤8:=by have:=h.sa;have:=h.ga.2.1;omega
 obtain ⟨h1,h2,h3,h4⟩:=h.ga.2.2.2 _ (Ak hi)
 have hib:i<b.Ops.length:=by rw [←h.ops];exact hi
 obtain ⟨_,_,k3,_⟩:=h.gb.2.2.2 _ (Ak hib)
 have e:(nth a.Ops i).Arity=(nth b.Ops i).Arity:=by
  have e1:nth (Ast a) i=(nth a.Ops i).Arity:=Ki _ hi
  have e2:nth (Ast b) i=(nth b.Ops i).Arity:=Ki _ hib
  rw [←e1,←e2,h.ty]
 rw [hn] at h3 h4
 rw [hm,←e] at k3
 exact ⟨(nth a.Ops i).Arity.toNat,by omega,by omega,by omega,h3,k3,h4,Xt hn8 (by omega)⟩
theorem Homs.pos (h:Homs a b f n m):0<n∧n≤8∧0<m∧m≤8:=by
 have:=h.sa;have:=h.sb;have:=h.ga.1;have:=h.ga.2.1;have:=h.gb.1;have:=h.gb.2.1
 omega
theorem Homs.low (h:Homs a b f n m) {r k:Nat} (hr:r≤3) : ∃c:Nat,A3r n m f r k=(c:Int)∧c<m^r:=by
 obtain ⟨hn,_,_,hm⟩:=h.pos
 obtain ⟨c,h1,h2,_⟩:=Wa hm (xs:=(Dw n r k).map fun x=>nth f x.toNat) (by rw [List.length_map,Hb];exact hr) (Ax8 hn h.len h.fin r k)
 rw [A00] at h1
 rw [List.length_map,Hb] at h2
 exact ⟨c,h1,h2⟩
end
def uniq (f:List Int):Prop := ∀i,i<f.length→nth f i∉f.take i
end Go.Proofs.YtjcekpmojnnmbaaGreat.Ax
namespace Go.Proofs.YtjcekpmojnnmbaaGreat.Ax
open Go Classical
def Bz (n:Nat) (p:List Int):Prop:=p.length=n ∧ ∀i,i<n→0≤nth p i∧nth p i≤i∧nth p (nth p i).toNat=nth p i
theorem Tg {p:List Int} (hl:p.length≤1048576) (n:Nat):Di n p=some (decide (Bz n p)):=by
 unfold Di
 by_cases h:p.length=n
 ·rw [if_neg (by omega)]
  have this:=H5 (body:=Cq p) (fun i=>(i:Int)) p.length (fun i=>¬(0≤nth p i∧nth p i≤i∧nth p (nth p i).toNat=nth p i)) () () (fun i hi hb=>by
   have hb:=Classical.not_not.1 hb
   unfold Cq
   rw [if_pos (by omega),Ae (by omega),tna0,if_neg (by omega),if_neg (by omega),Ae (by omega),if_neg (by simpa using hb.2.2),Ae (by unfold InI;omega)];rfl) (fun i hi hb=>by
   unfold Cq
   rw [if_pos (by omega),Ae (by omega),tna0]
   by_cases h1:nth p i<0
   ·rw [if_pos h1]
   ·rw [if_neg h1]
    by_cases h2:nth p i>i
    ·rw [if_pos h2]
    ·rw [if_neg h2,Ae (by omega),if_pos (fun h3=>hb ⟨by omega,by omega,h3⟩)]) (by
   unfold Cq
   rw [if_neg (by omega)]) 0 (by omega)
  refine (Na this false true).trans (congrArg some (Vg ?_))
  rw [J4]
  unfold Bz
  constructor
  ·intro hh;exact ⟨h,fun i hi=>hh i (by omega)⟩
  ·rintro ⟨_,hh⟩ i hi;exact hh i (by omega)
 ·rw [if_pos (by omega),dfa0 (fun hh=>h hh.1)]
theorem Bz.inS {n:Nat} {p:List Int} (h:Bz n p):Eo p n:=by
 intro x hx
 obtain ⟨i,hi,rfl⟩:=G6.1 hx
 have:=h.2 i (by have:=h.1;omega)
 have:=h.1
 omega
theorem Aw1 (P:Nat→Prop) : ∀x,P x → ∃y,y≤x∧P y ∧ ∀z,z<y→¬P z:=by
 intro x
 induction x using Nat.strongRecOn with
 | _ x ih=>
   intro h
   by_cases hz : ∃z,z<x∧P z
   ·obtain ⟨z,h1,h2⟩:=hz
    obtain ⟨y,a,b,c⟩:=ih z h1 h2
    exact ⟨y,by omega,b,c⟩
   ·exact ⟨x,Nat.le_refl _,h,fun z hz' h'=>hz ⟨z,hz',h'⟩⟩
theorem Ads {p:List Int} (hl:p.length≤1048576):Fc p=some ((Ct p.length fun i=>decide (nth p i=(i:Int))).length:Int):=by
 unfold Fc
 rw [Ah6 (body:=Do p) p.length (fun i=>decide (nth p i=(i:Int))) (fun i c hi hc=>by
  unfold Do
  dsimp only
  rw [if_pos (by omega),Ae (by omega),tna0]
  by_cases h:nth p i=(i:Int)
  ·rw [if_pos h,dtr0 h,if_pos rfl,Ae (by unfold InI;omega),Ae (by unfold InI;omega)];rfl
  ·rw [if_neg h,dfa0 h,if_neg (by simp),Ae (by unfold InI;omega)];rfl) (fun c=>by
  unfold Do
  dsimp only
  rw [if_neg (by omega)])]
 rfl
theorem Am3 {p:List Int} (hl:p.length≤1048576):E2 p=some ((Ct p.length fun i=>decide (nth p i=(i:Int))).length:Int):=by
 unfold E2
 rw [Ah6 (body:=Fa p) p.length (fun i=>decide (nth p i=(i:Int))) (fun i c hi hc=>by
  unfold Fa
  dsimp only
  rw [if_pos (by omega),Ae (by omega),tna0]
  by_cases h:nth p i=(i:Int)
  ·rw [if_pos h,dtr0 h,if_pos rfl,Ae (by unfold InI;omega),Ae (by unfold InI;omega)];rfl
  ·rw [if_neg h,dfa0 h,if_neg (by simp),Ae (by unfold InI;omega)];rfl) (fun c=>by
  unfold Fa
  dsimp only
  rw [if_neg (by omega)])]
 rfl
end Go.Proofs.YtjcekpmojnnmbaaGreat.Ax
namespace Go.Proofs.YtjcekpmojnnmbaaGreat.Ax
open Go Classical
def leP (q p:List Int):Prop:=q.length=p.length ∧ ∀i,i<p.length→nth q i≤nth p i
theorem leP.refl (p:List Int):leP p p:=⟨rfl,fun _ _=>Int.le_refl _⟩
theorem leP.trans {a b c:List Int} (h:leP a b) (h':leP b c):leP a c:=⟨h.1.trans h'.1,fun i hi=>Int.le_trans (h.2 i (by rw [h'.1];exact hi)) (h'.2 i hi)⟩
theorem leP.anti {a b:List Int} (h:leP a b) (h':leP b a):a=b:=Lm h.1 fun i hi=>Int.le_antisymm (h.2 i (by rw [←h.1];exact hi)) (h'.2 i hi)
def mgF (u v z:Int):Int:=if z=(if u>v then u else v) then (if u<v then u else v) else z
theorem Oe {u v:Int} (h:u>v) (z:Int):mgF u v z=if z=u then v else z:=by
 unfold mgF;rw [if_pos h,if_neg (show ¬u<v by omega)]
theorem Of {u v:Int} (h:u<v) (z:Int):mgF u v z=if z=v then u else z:=by
 unfold mgF;rw [if_neg (show ¬u>v by omega),if_pos h]
theorem Aba (u z:Int):mgF u u z=z:=by
 unfold mgF;rw [if_neg (show ¬u>u by omega)]
 try rw [if_neg (show ¬u<u by omega)]
 by_cases h:z=u
 ·rw [if_pos h,h]
 ·rw [if_neg h]
theorem A4s (u v z:Int):mgF u v z≤z:=by
 rcases Int.lt_trichotomy u v with h | h | h
 ·rw [Of h];split<;>omega
 ·rw [h,Aba];omega
 ·rw [Oe h];split<;>omega
theorem A37 {u v z n:Int} (hu:0≤u∧u<n) (hv:0≤v∧v<n) (hz:0≤z∧z<n):0≤mgF u v z∧mgF u v z<n:=by
 rcases Int.lt_trichotomy u v with h | h | h
 ·rw [Of h];split<;>omega
 ·rw [h,Aba];omega
 ·rw [Oe h];split<;>omega
def mg (p:List Int) (u v:Int):List Int:=p.map (mgF u v)
theorem Ati (p:List Int) (u v:Int):(mg p u v).length=p.length:=by simp [mg]
theorem Ayq (p:List Int) (u:Int):mg p u u=p:=by
 unfold mg
 rw [show mgF u u=id from funext (Aba u),List.map_id]
theorem A0m (p:List Int) (u v:Int):leP (mg p u v) p:=⟨Ati p u v,fun i hi=>by unfold mg;rw [Ki _ hi];exact A4s _ _ _⟩
theorem Aza {out p:List Int} {x y:Nat} (h:leP out p) (hx:x<p.length) (hy:y<p.length):mg out (nth out x) (nth out y)=p↔out=p∧nth p x=nth p y:=by
 constructor
 ·intro e
  have h1:leP p out:=by
   have:=A0m out (nth out x) (nth out y)
   rw [e] at this;exact this
  have h2:out=p:=leP.anti h h1
  subst h2
  refine ⟨rfl,?_⟩
  have e1:nth (mg out (nth out x) (nth out y)) x=nth out x:=by rw [e]
  have e2:nth (mg out (nth out x) (nth out y)) y=nth out y:=by rw [e]
  unfold mg at e1 e2
  rw [Ki _ hx] at e1
  rw [Ki _ hy] at e2
  rcases Int.lt_trichotomy (nth out x) (nth out y) with hh | hh | hh
  ·rw [Of hh,if_pos rfl] at e2;exact e2
  ·exact hh
  ·rw [Oe hh,if_pos rfl] at e1;exact e1.symm
 ·rintro ⟨rfl,e⟩
  rw [e,Ayq]
def okP (n:Nat) (q:List Int):Prop:=q.length=n∧Eo q n
theorem A5r {n:Nat} {q:List Int} (h:okP n q) {x y:Nat} (hx:x<n) (hy:y<n):okP n (mg q (nth q x) (nth q y)):=by
 refine ⟨by rw [Ati];exact h.1,fun z hz=> ?_⟩
 obtain ⟨w,hw,rfl⟩:=List.mem_map.1 hz
 exact A37 (h.2 _ (Ak (by rw [h.1];exact hx))) (h.2 _ (Ak (by rw [h.1];exact hy))) (h.2 _ hw)
theorem A5v {body:(Int×List Int)→Option ((Int×List Int) ⊕ List Int)} (p:List Int) (f:Int→Int)
  (h : ∀(i:Nat) (w:List Int),i<p.length→w.length=p.length→nth w i=nth p i → ∃w',body ((i:Int),w)=some (.inl (((i+1:Nat):Int),w'))∧w'=w.set i (f (nth p i)))
  (he : ∀w:List Int,w.length=p.length→body ((p.length:Int),w)=some (.inr w)):Al body (0,p)=some (p.map f):=by
 obtain ⟨t,ht,hp⟩:=C8 (body:=body) (fun s => ∃i:Nat,s.1=(i:Int)∧i≤p.length∧s.2.length=p.length ∧ ∀j,j<p.length→nth s.2 j=if j<i then f (nth p j) else nth p j) (fun s=>p.length-s.1.toNat) (fun t=>t=p.map f) (by
  rintro ⟨x,w⟩ ⟨i,h0,h1,h2,h3⟩
  dsimp only at h0 h1 h2 h3
  subst h0
  by_cases hi:i<p.length
  ·obtain ⟨w',e,ew⟩:=h i w hi h2 (by rw [h3 i hi,if_neg (by omega)])
   refine .inl ⟨_,e,⟨i+1,rfl,by omega,by rw [ew,List.length_set];exact h2,fun j hj=> ?_⟩,by dsimp only;omega⟩
   dsimp only
   rw [ew,E4 _ _ _ _ (by omega)]
   by_cases hij:i=j
   ·subst hij
    rw [if_pos rfl,if_pos (by omega)]
   ·rw [if_neg hij,h3 j hj]
    by_cases hlt:j<i
    ·rw [if_pos hlt,if_pos (by omega)]
    ·rw [if_neg hlt,if_neg (by omega)]
  ·have ei:i=p.length:=by omega
   subst ei
   refine .inr ⟨_,he w h2,Lm (by rw [h2,List.length_map]) fun j hj=> ?_⟩
   rw [h3 j (by omega),if_pos (by omega),Ki _ (by omega)]) (s:=(0,p)) ⟨0,rfl,by omega,rfl,fun j hj=>by simp⟩
 rw [ht,hp]
theorem A3e {w:List Int} {i:Nat} {z:Int} (h:nth w i=z):w=w.set i z:=by
 refine Lm (by simp) fun j hj=> ?_
 rw [E4 _ _ _ _ hj]
 by_cases hij:i=j
 ·subst hij;rw [if_pos rfl,h]
 ·rw [if_neg hij]
theorem Ahz {p:List Int} (hl:p.length≤1048576) {X Y:Int} (hx:0≤X∧X<p.length) (hy:0≤Y∧Y<p.length):Ht p X Y=some (decide (¬nth p X.toNat=nth p Y.toNat),mg p (nth p X.toNat) (nth p Y.toNat)):=by
 unfold Ht
 rw [Ae hx,Ae hy]
 by_cases h:nth p X.toNat=nth p Y.toNat
 ·rw [if_pos h,h,Ayq,dfa0 (fun hh=>hh rfl)]
 ·have key : ∀hi lo:Int,Al (Fg p hi lo) (0,p)=some (p.map fun z=>if z=hi then lo else z):=fun hi lo=>
   A5v (body:=Fg p hi lo) p _ (fun i w hi' hw hn=>by
    unfold Fg
    dsimp only
    rw [if_pos (by omega),Ae (by omega),tna0,hn]
    by_cases hz:nth p i=hi
    ·rw [if_pos hz,Ae (by omega),Ae (by unfold InI;omega),if_pos hz]
     exact ⟨_,rfl,rfl⟩
    ·rw [if_neg hz,Ae (by unfold InI;omega),if_neg hz]
     exact ⟨_,rfl,A3e hn⟩) (fun w hw=>by
    unfold Fg
    dsimp only
    rw [if_neg (by omega)])
  rw [if_neg h,dtr0 h]
  unfold mg
  by_cases hg:nth p X.toNat>nth p Y.toNat
  ·rw [if_pos hg]
   simp only [obs0]
   rw [key,show mgF (nth p X.toNat) (nth p Y.toNat)=fun z=>if z=nth p X.toNat then nth p Y.toNat else z from funext (Oe hg)]
   rfl
  ·rw [if_neg hg]
   simp only [obs0]
   rw [key,show mgF (nth p X.toNat) (nth p Y.toNat)=fun z=>if z=nth p Y.toNat then nth p X.toNat else z from funext (Of (by omega))]
   rfl
theorem Yy {p:List Int} (hl:p.length≤1048576) {X Y:Int} (hx:0≤X∧X<p.length) (hy:0≤Y∧Y<p.length):F5 p X Y=some (mg p (nth p X.toNat) (nth p Y.toNat)):=by
 unfold F5
 have e1 : ∀a b:Int,I8 a b=some (if a<b then a else b):=fun a b=>by
  unfold I8;split<;>rfl
 rw [Ae hx,Ae hy,e1]
 simp only [obs0]
 rw [Ae hx,Ae hy,A1u]
 simp only [obs0]
 have key : ∀hi lo:Int,Al (Dz p lo hi) (0,Aw Int)=some (p.map fun z=>if z=hi then lo else z):=fun hi lo=>
  Fm (body:=Dz p lo hi) (fun i=>((i:Int),(p.take i).map fun z=>if z=hi then lo else z)) p.length _ (fun i hi'=>by
   unfold Dz
   dsimp only
   rw [if_pos (by omega),Ae (by omega),tna0,Lt hi',List.map_append]
   by_cases hz:nth p i=hi
   ·rw [if_pos hz,Ae (by rw [Bn,List.length_map,List.length_take];simp;omega),Ae (by unfold InI;omega)]
    simp only [List.map_cons,List.map_nil,if_pos hz]
    rfl
   ·rw [if_neg hz,Ae (by omega),Ae (by rw [Bn,List.length_map,List.length_take];simp;omega),Ae (by unfold InI;omega)]
    simp only [List.map_cons,List.map_nil,if_neg hz]
    rfl) (by
   unfold Dz
   dsimp only
   rw [if_neg (by omega),List.take_length])
 rw [key]
 rfl
def Rel (n:Nat) (s t:Bool×Bool×List Int) (D:Prop):Prop:=
 okP n t.2.2∧leP t.2.2 s.2.2∧((t=s∧D)∨(t.2.2≠s.2.2∧t.1=true∧t.2.1=true∧¬D))
theorem Rel.congr {n:Nat} {s t:Bool×Bool×List Int} {D E:Prop} (h:Rel n s t D) (e:D↔E):Rel n s t E:=by
 rw [←propext e];exact h
theorem Rel.comp {n:Nat} {s t r:Bool×Bool×List Int} {D E E':Prop} (h:Rel n s t D) (h':Rel n t r E) (hE:t=s→(E↔E')):Rel n s r (D∧E'):=by
 obtain ⟨_,a2,a3⟩:=h
 obtain ⟨b1,b2,b3⟩:=h'
 refine ⟨b1,b2.trans a2,?_⟩
 rcases a3 with ⟨e,d⟩ | ⟨e,d1,d2,d3⟩
 ·have hE:=hE e
  rw [e] at b3
  rcases b3 with ⟨e',x⟩ | ⟨e',x1,x2,x3⟩
  ·exact .inl ⟨e',d,hE.1 x⟩
  ·exact .inr ⟨e',x1,x2,fun hh=>x3 (hE.2 hh.2)⟩
 ·have hne:r.2.2≠s.2.2:=fun hh=>e (leP.anti a2 (by rw [←hh];exact b2))
  rcases b3 with ⟨e',_⟩ | ⟨_,x1,x2,_⟩
  ·rw [e'] at hne ⊢
   exact .inr ⟨hne,d1,d2,fun hh=>d3 hh.1⟩
  ·exact .inr ⟨hne,x1,x2,fun hh=>d3 hh.1⟩
theorem Aiq {σ:Type} {n:Nat} {body:σ→Option (σ ⊕ (Bool×Bool×List Int))} (st:Nat→Bool×Bool×List Int→σ) (N:Nat) (C:Nat→List Int→Prop)
  (h : ∀i s,i<N→okP n s.2.2 → ∃s',body (st i s)=some (.inl (st (i+1) s'))∧Rel n s s' (C i s.2.2))
  (he : ∀s,okP n s.2.2→body (st N s)=some (.inr s)) (s:Bool×Bool×List Int) (hs:okP n s.2.2) : ∃s',Al body (st 0 s)=some s'∧Rel n s s' (∀i,i<N→C i s.2.2):=by
 have key : ∀k,k≤N → ∀s,okP n s.2.2 → ∃s',Al body (st (N-k) s)=some s'∧Rel n s s' (∀i,N-k≤i→i<N→C i s.2.2):=by
  intro k
  induction k with
  | zero=>
    intro _ s hs
    exact ⟨s,D4 (he s hs),hs,leP.refl _,.inl ⟨rfl,fun i h1 h2=>by omega⟩⟩
  | succ k ih=>
    intro hk s hs
    obtain ⟨t,e1,r1⟩:=h (N-(k+1)) s (by omega) hs
    obtain ⟨r,e2,r2⟩:=ih (by omega) t r1.1
    have e:N-(k+1)+1=N-k:=by omega
    refine ⟨r,by rw [Gc e1,e];exact e2,?_⟩
    refine (Rel.comp r1 r2 (E' := ∀i,N-k≤i→i<N→C i s.2.2) (fun hh=>by rw [hh])).congr ?_
    constructor
    ·rintro ⟨h1,h2⟩ i h3 h4
     by_cases hi:i=N-(k+1)
     ·subst hi;exact h1
     ·exact h2 i (by omega) h4
    ·intro hh
     exact ⟨hh _ (Nat.le_refl _) (by omega),fun i h1 h2=>hh i (by omega) h2⟩
 obtain ⟨r,e,hr⟩:=key N (Nat.le_refl _) s hs
 rw [Nat.sub_self] at e hr
 exact ⟨r,e,hr.congr ⟨fun hh i hi=>hh i (Nat.zero_le _) hi,fun hh i _ hi=>hh i hi⟩⟩
def Aeu (n:Nat) (p:List Int) (e i:Nat):Int:=(i:Int)+(nth p (i/n^e%n)-((i/n^e%n:Nat):Int))*((n^e:Nat):Int)
theorem Ae1 (i n:Nat):((i/n:Nat):Int)*(n:Int)+((i%n:Nat):Int)=(i:Int):=by
 rw [←Int.natCast_mul,←Int.natCast_add,Nat.mul_comm,Nat.div_add_mod]
theorem Ao4 {n r i:Nat} (hi:i<n^(r+1)):i/n<n^r:=by
 rw [Nat.pow_succ,Nat.mul_comm] at hi
 exact Nat.div_lt_of_lt_mul hi
theorem A1f {n:Nat} : ∀r i,i<n^r→U9 n (Dw n r i)=(i:Int):=by
 intro r
 induction r with
 | zero=>intro i hi;have:i=0:=by simpa using hi
         subst this;rfl
 | succ r ih=>
   intro i hi
   simp only [Dw]
   rw [La,ih _ (Ao4 hi),Ae1]
theorem Zb {n:Nat} (p:List Int) : ∀r i k,i<n^r→k<r→U9 n ((Dw n r i).set k (nth p (nth (Dw n r i) k).toNat))=Aeu n p (r-1-k) i:=by
 intro r
 induction r with
 | zero=>intro i k _ hk;omega
 | succ r ih=>
   intro i k hi hk
   simp only [Dw]
   have hl:=Hb n r (i/n)
   by_cases hkr:k=r
   ·subst hkr
    have e1:nth (Dw n k (i/n)++[((i%n:Nat):Int)]) k=((i%n:Nat):Int):=by
     have:=Xn (xs:=Dw n k (i/n)) (y:=((i%n:Nat):Int))
     rw [hl] at this;exact this
    rw [e1,tna0]
    have e2 : ∀v:Int,(Dw n k (i/n)++[((i%n:Nat):Int)]).set k v=Dw n k (i/n)++[v]:=fun v=>by
     rw [List.set_append,if_neg (by omega),hl,Nat.sub_self];rfl
    rw [e2,La,A1f _ _ (Ao4 hi)]
    unfold Aeu
    rw [show k+1-1-k=0 by omega,Nat.pow_zero,Nat.div_one,Int.natCast_one,Int.mul_one]
    have:=Ae1 i n
    omega
   ·have hkl:k<r:=by omega
    rw [Km (by omega),List.set_append,if_pos (by omega),La,ih _ _ (Ao4 hi) hkl]
    unfold Aeu
    rw [show r+1-1-k=r-1-k+1 by omega,Nat.pow_succ,Nat.div_div_eq_div_mul,Nat.mul_comm n]
    have:=Ae1 i n
    rw [Int.add_mul,Int.natCast_mul,Int.mul_assoc]
    omega
theorem A4q {xs:List Int} {n v:Int} (h:Eo xs n) (hv:0≤v∧v<n) (k:Nat):Eo (xs.set k v) n:=by
 intro x hx
 rcases List.mem_or_eq_of_mem_set hx with hx | hx
 ·exact h x hx
 ·rw [hx];exact hv
theorem Atc {n:Nat} (hn:0<n) {q:List Int} (hq:okP n q) {r i k:Nat} (hk:k<r):Eo ((Dw n r i).set k (nth q (nth (Dw n r i) k).toNat)) n:=by
 have h1:=Vq hn r i
 have h2:=h1 _ (Ak (show k<(Dw n r i).length by rw [Hb];exact hk))
 exact A4q h1 (hq.2 _ (Ak (by rw [hq.1];omega))) k
theorem Acy {n:Nat} (hn:0<n) {q:List Int} (hq:okP n q) {r i e:Nat} (hi:i<n^r) (he:e<r) : ∃c:Nat,Aeu n q e i=(c:Int)∧c<n^r:=by
 have h1:=Zb q r i (r-1-e) hi (by omega)
 rw [show r-1-(r-1-e)=e by omega] at h1
 rw [←h1]
 exact Apr r _ (by rw [List.length_set,Hb]) (Atc hn hq (by omega))
section
variable {a:SAlgebra} {n:Nat}
theorem opX (ga:Cf a) (hn:a.Size=n) {i:Nat} (hi:i<a.Ops.length) : ∃r:Nat,r≤3∧(nth a.Ops i).Arity=r∧(nth a.Ops i).Table.length=n^r∧Eo (nth a.Ops i).Table n∧n^r≤512∧0<n∧n≤8:=by
 have hn':a.Size.toNat=n:=by omega
 have h1:=ga.1
 have h2:=ga.2.1
 obtain ⟨b1,b2,b3,b4⟩:=ga.2.2.2 _ (Ak hi)
 rw [hn'] at b3 b4
 exact ⟨(nth a.Ops i).Arity.toNat,by omega,by omega,b3,b4,Xt (by omega) (by omega),by omega,by omega⟩
def Zw (a:SAlgebra) (n o e i:Nat) (q:List Int):Prop:=nth q (nth (nth a.Ops o).Table i).toNat=nth q (nth (nth a.Ops o).Table (Aeu n q e i).toNat).toNat
def Alx (a:SAlgebra) (n:Nat) (q:List Int):Prop := ∀o,o<a.Ops.length → ∀e,e<(nth a.Ops o).Arity.toNat → ∀i,i<(nth a.Ops o).Table.length→Zw a n o e i q
theorem A0p (ga:Cf a) (hn:a.Size=n) {o e:Nat} (ho:o<a.Ops.length) (he:e<(nth a.Ops o).Arity.toNat) (s:Bool×Bool×List Int) (hs:okP n s.2.2) :
  ∃s',Al (A7 a (o:Int) (e:Int) ((n^e:Nat):Int)) (0,s.1,s.2.1,s.2.2)=some s'∧Rel n s s' (∀i,i<(nth a.Ops o).Table.length→Zw a n o e i s.2.2):=by
 obtain ⟨r,r3,hr,hT,hTi,h512,hn0,hn8⟩:=opX ga hn ho
 refine Aiq (body:=A7 a (o:Int) (e:Int) ((n^e:Nat):Int)) (fun i s=>((i:Int),s.1,s.2.1,s.2.2)) (nth a.Ops o).Table.length (fun i q=>Zw a n o e i q) (fun i s hi hs=> ?_) (fun s hs=> ?_) s hs
 ·obtain ⟨c,w,q⟩:=s
  dsimp only at hs ⊢
  obtain ⟨x,ex⟩ : ∃x,x=i/n^e%n:=⟨_,rfl⟩
  have hx:x<n:=by rw [ex];exact Nat.mod_lt _ hn0
  obtain ⟨y,ey⟩ : ∃y,y=i/n^e:=⟨_,rfl⟩
  have c1:(i:Int).tdiv ((n^e:Nat):Int)=(y:Int):=by rw [ey];rfl
  have c2:(y:Int).tmod (n:Int)=(x:Int):=by rw [ex,ey];rfl
  have sw:Aeu n q e i=(i:Int)+(nth q x-(x:Int))*((n^e:Nat):Int):=by rw [ex];rfl
  obtain ⟨d,hd,hd2⟩:=Acy hn0 hs (r:=r) (i:=i) (by omega) (show e<r by omega)
  have hok:Zw a n o e i q↔nth q (nth (nth a.Ops o).Table i).toNat=nth q (nth (nth a.Ops o).Table d).toNat:=by
   unfold Zw;rw [hd,tna0]
  rw [sw] at hd
  have hpow:0<n^e:=Nat.pow_pos hn0
  have hq:=hs.2 _ (Ak (show x<q.length by rw [hs.1];exact hx))
  have hsl:=hs.1
  have y1:=hTi _ (Ak (show i<(nth a.Ops o).Table.length from hi))
  have y2:=hTi _ (Ak (show d<(nth a.Ops o).Table.length by omega))
  have hdiv:y≤i:=by rw [ey];exact Nat.div_le_self _ _
  have hu:=Ahz (p:=q) (by omega) (X:=nth (nth a.Ops o).Table i) (Y:=nth (nth a.Ops o).Table d) (by omega) (by omega)
  unfold A7
  dsimp only
  simp only [hn,c1,c2,tna0,hd]
  rw [if_pos (by omega),Ae (by omega),Ae (by unfold InI;omega),Ae (by omega),Ae (by omega),Ae (by unfold InI;omega),Ae (by unfold InI;omega),Ae (by unfold InI;omega),Ae (by omega),hu]
  simp only [obs0]
  by_cases hk:nth q (nth (nth a.Ops o).Table i).toNat=nth q (nth (nth a.Ops o).Table d).toNat
  ·rw [dfa0 (fun hh=>hh hk),if_neg (by simp),Ae (by unfold InI;omega),hk,Ayq]
   exact ⟨(c,w,q),rfl,hs,leP.refl _,.inl ⟨rfl,hok.2 hk⟩⟩
  ·rw [dtr0 hk,if_pos rfl,Ae (by unfold InI;omega)]
   refine ⟨(true,true,_),rfl,A5r hs (by omega) (by omega),A0m _ _ _,.inr ⟨fun hh=> ?_,rfl,rfl,fun hh=>hk (hok.1 hh)⟩⟩
   exact hk ((Aza (leP.refl q) (by omega) (by omega)).1 hh).2
 ·unfold A7
  dsimp only
  rw [tna0,if_neg (by omega)]
theorem Ax9 (ga:Cf a) (hn:a.Size=n) {o:Nat} (ho:o<a.Ops.length) (s:Bool×Bool×List Int) (hs:okP n s.2.2) :
  ∃s',Al (A6 a (o:Int)) (0,1,s.1,s.2.1,s.2.2)=some s'∧Rel n s s' (∀e,e<(nth a.Ops o).Arity.toNat → ∀i,i<(nth a.Ops o).Table.length→Zw a n o e i s.2.2):=by
 obtain ⟨r,r3,hr,hT,hTi,h512,hn0,hn8⟩:=opX ga hn ho
 refine Aiq (body:=A6 a (o:Int)) (fun e s=>((e:Int),((n^e:Nat):Int),s.1,s.2.1,s.2.2)) (nth a.Ops o).Arity.toNat (fun e q => ∀i,i<(nth a.Ops o).Table.length→Zw a n o e i q) (fun e s he hs=> ?_) (fun s hs=> ?_) s hs
 ·obtain ⟨s',e1,r1⟩:=A0p ga hn ho he s hs
  refine ⟨s',?_,r1⟩
  unfold A6
  dsimp only
  have hp:n^e*n≤512:=by rw [←Nat.pow_succ];exact Xt hn8 (by omega)
  have hp':((n^e:Nat):Int)*(n:Int)=((n^e*n:Nat):Int):=by rw [Int.natCast_mul]
  rw [tna0,if_pos (by omega),e1]
  simp only [obs0]
  rw [hn,hp',Ae (by unfold InI;omega),Ae (by unfold InI;omega),Nat.pow_succ]
  rfl
 ·unfold A6
  dsimp only
  rw [tna0,if_neg (by omega)]
theorem Axt (ga:Cf a) (hn:a.Size=n) (s:Bool×Bool×List Int) (hs:okP n s.2.2) :
  ∃s',Al (As a) (0,s.1,s.2.1,s.2.2)=some s'∧Rel n s s' (Alx a n s.2.2):=by
 refine Aiq (body:=As a) (fun o s=>((o:Int),s.1,s.2.1,s.2.2)) a.Ops.length (fun o q => ∀e,e<(nth a.Ops o).Arity.toNat → ∀i,i<(nth a.Ops o).Table.length→Zw a n o e i q) (fun o s ho hs=> ?_) (fun s hs=> ?_) s hs
 ·obtain ⟨s',e1,r1⟩:=Ax9 ga hn ho s hs
  refine ⟨s',?_,r1⟩
  unfold As
  dsimp only
  have:=ga.2.2.1
  rw [if_pos (by omega),Ae (by omega),e1]
  simp only [obs0]
  rw [Ae (by unfold InI;omega)]
  rfl
 ·unfold As
  dsimp only
  rw [if_neg (by omega)]
def wgt (q:List Int):Nat:=(q.map Int.toNat).sum
theorem A4w : ∀xs ys:List Int,xs.length=ys.length→(∀i,i<ys.length→nth xs i≤nth ys i)→(∀x∈xs,0≤x)→wgt xs≤wgt ys∧(xs≠ys→wgt xs<wgt ys):=by
 intro xs
 induction xs with
 | nil=>
   intro ys hl _ _
   have:ys=[]:=List.length_eq_zero_iff.1 hl.symm
   subst this
   exact ⟨Nat.le_refl _,fun h=>(h rfl).elim⟩
 | cons x r ih=>
   intro ys hl h h0
   match ys,hl with
   | y::t,hl=>
     have h1:x≤y:=h 0 (by simp)
     have h2:=h0 x (by simp)
     obtain ⟨h3,h4⟩:=ih t (by simpa using hl) (fun i hi=>h (i+1) (by simpa using hi)) (fun z hz=>h0 z (by simp [hz]))
     have e1:wgt (x::r)=x.toNat+wgt r:=rfl
     have e2:wgt (y::t)=y.toNat+wgt t:=rfl
     refine ⟨by omega,fun hne=> ?_⟩
     by_cases hxy:x=y
     ·have:=h4 (fun hh=>hne (by rw [hxy,hh]))
      omega
     ·omega
theorem Ae0 {body:(Int×List Int)→Option ((Int×List Int) ⊕ List Int)} (p:List Int) (N:Nat) (C:Nat→Prop)
  (h : ∀(i:Nat) (q:List Int),i<N→leP q p → ∃q',body ((i:Int),q)=some (.inl (((i+1:Nat):Int),q'))∧leP q' p∧(q'=p↔q=p∧C i))
  (he : ∀q:List Int,body ((N:Int),q)=some (.inr q)) (q:List Int) (hq:leP q p) : ∃r,Al body (0,q)=some r∧leP r p∧(r=p↔q=p ∧ ∀i,i<N→C i):=by
 have key : ∀k,k≤N → ∀q,leP q p → ∃r,Al body (((N-k:Nat):Int),q)=some r∧leP r p∧(r=p↔q=p ∧ ∀i,N-k≤i→i<N→C i):=by
  intro k
  induction k with
  | zero=>
    intro _ q hq
    exact ⟨q,D4 (he q),hq,fun hh=>⟨hh,fun i h1 h2=>by omega⟩,fun hh=>hh.1⟩
  | succ k ih=>
    intro hk q hq
    obtain ⟨q',e1,h1,h2⟩:=h (N-(k+1)) q (by omega) hq
    obtain ⟨r,e2,h3,h4⟩:=ih (by omega) q' h1
    have e:N-(k+1)+1=N-k:=by omega
    refine ⟨r,by rw [Gc e1,e];exact e2,h3,?_⟩
    rw [h4,h2]
    constructor
    ·rintro ⟨⟨x1,x2⟩,x3⟩
     refine ⟨x1,fun i h5 h6=> ?_⟩
     by_cases hi:i=N-(k+1)
     ·subst hi;exact x2
     ·exact x3 i (by omega) h6
    ·rintro ⟨x1,x2⟩
     exact ⟨⟨x1,x2 _ (Nat.le_refl _) (by omega)⟩,fun i h5 h6=>x2 i (by omega) h6⟩
 obtain ⟨r,e,h1,h2⟩:=key N (Nat.le_refl _) q hq
 rw [Nat.sub_self] at e h2
 exact ⟨r,e,h1,h2.trans ⟨fun hh=>⟨hh.1,fun i hi=>hh.2 i (Nat.zero_le _) hi⟩,fun hh=>⟨hh.1,fun i _ hi=>hh.2 i hi⟩⟩⟩
theorem A20 (ga:Cf a) (hn:a.Size=n) {p:List Int} (hp:okP n p) {o r i:Nat} (ho:o<a.Ops.length) (hr:(nth a.Ops o).Arity=r) (hi:i<(nth a.Ops o).Table.length) (q:List Int) (hq:leP q p) :
  ∃t,Al (Ck a p (o:Int) (i:Int) (Dw n r i)) (0,q)=some t∧leP t p∧(t=p↔q=p ∧ ∀k,k<r→Zw a n o (r-1-k) i p):=by
 obtain ⟨r',r3,hr',hT,hTi,h512,hn0,hn8⟩:=opX ga hn ho
 obtain rfl:r=r':=by omega
 have hal:=Hb n r i
 refine Ae0 (body:=Ck a p (o:Int) (i:Int) (Dw n r i)) p r (fun k=>Zw a n o (r-1-k) i p) (fun k q hk hq=> ?_) (fun q=> ?_) q hq
 ·have hin:=Atc hn0 hp (i:=i) hk
  have hsw:=Zb (n:=n) p r i k (by omega) hk
  obtain ⟨c,hc,hc2⟩:=Acy hn0 hp (r:=r) (i:=i) (e:=r-1-k) (by omega) (by omega)
  have y0:=Vq hn0 r i _ (Ak (show k<(Dw n r i).length by omega))
  have y1:=hTi _ (Ak (show i<(nth a.Ops o).Table.length from hi))
  have y2:=hTi _ (Ak (show c<(nth a.Ops o).Table.length by omega))
  have hql:=hq.1
  have hpl:=hp.1
  have hv:=Avd hn8 hn ho (xs:=(Dw n r i).set k (nth p (nth (Dw n r i) k).toNat)) (by rw [List.length_set];omega) hin (by rw [List.length_set,hal];exact hT)
  rw [hsw,hc,tna0] at hv
  have hu:=Yy (p:=q) (by omega) (X:=nth (nth a.Ops o).Table i) (Y:=nth (nth a.Ops o).Table c) (by omega) (by omega)
  unfold Ck
  dsimp only
  rw [if_pos (by omega),Ar0 _ (by rw [Bn];omega)]
  simp only [obs0,tna0]
  rw [Ae (by omega),Ae (by omega),Ae (by omega),Ae (by omega),Ae (by omega),hv]
  simp only [obs0]
  rw [hu]
  simp only [obs0]
  rw [Ae (by unfold InI;omega)]
  refine ⟨_,rfl,(A0m _ _ _).trans hq,(Aza hq (by omega) (by omega)).trans ?_⟩
  unfold Zw
  rw [hc,tna0]
 ·unfold Ck
  dsimp only
  rw [if_neg (by omega)]
theorem A2w (ga:Cf a) (hn:a.Size=n) {p:List Int} (hp:okP n p) {o r:Nat} (ho:o<a.Ops.length) (hr:(nth a.Ops o).Arity=r) (q:List Int) (hq:leP q p) :
  ∃t,Al (Cn a p (o:Int)) (0,q)=some t∧leP t p∧(t=p↔q=p ∧ ∀i,i<(nth a.Ops o).Table.length → ∀k,k<r→Zw a n o (r-1-k) i p):=by
 obtain ⟨r',r3,hr',hT,hTi,h512,hn0,hn8⟩:=opX ga hn ho
 obtain rfl:r=r':=by omega
 refine Ae0 (body:=Cn a p (o:Int)) p (nth a.Ops o).Table.length (fun i => ∀k,k<r→Zw a n o (r-1-k) i p) (fun i q hi hq=> ?_) (fun q=> ?_) q hq
 ·obtain ⟨t,e1,e2,e3⟩:=A20 ga hn hp ho hr hi q hq
  refine ⟨t,?_,e2,e3⟩
  unfold Cn
  dsimp only
  rw [Ae (by omega),tna0,if_pos (by omega),Ae (by omega),hn,hr,Ara hn0 hn8 r3 (by omega)]
  simp only [obs0]
  rw [e1]
  simp only [obs0]
  rw [Ae (by unfold InI;omega)]
  rfl
 ·unfold Cn
  dsimp only
  rw [Ae (by omega),tna0,if_neg (by omega)]
theorem A1g (ga:Cf a) (hn:a.Size=n) {p:List Int} (hp:okP n p) : ∃t,Ev a p=some t∧t.length=n∧(t=p↔Alx a n p):=by
 have h8:=ga.2.1
 have hpl:=hp.1
 unfold Ev
 rw [Ar0 _ (by rw [Bn];omega)]
 simp only [obs0]
 obtain ⟨t,e1,e2,e3⟩:=Ae0 (body:=C4 a p) p a.Ops.length (fun o => ∀i,i<(nth a.Ops o).Table.length → ∀k,k<(nth a.Ops o).Arity.toNat→Zw a n o ((nth a.Ops o).Arity.toNat-1-k) i p) (fun o q ho hq=>by
  obtain ⟨r,r3,hr,_⟩:=opX ga hn ho
  obtain ⟨t,e1,e2,e3⟩:=A2w ga hn hp ho (show (nth a.Ops o).Arity=((nth a.Ops o).Arity.toNat:Nat) by omega) q hq
  refine ⟨t,?_,e2,e3⟩
  unfold C4
  dsimp only
  have:=ga.2.2.1
  rw [if_pos (by omega),e1]
  simp only [obs0]
  rw [Ae (by unfold InI;omega)]
  rfl) (fun q=>by
  unfold C4
  dsimp only
  rw [if_neg (by omega)]) p (leP.refl p)
 rw [e1]
 refine ⟨t,rfl,by rw [e2.1];exact hpl,e3.trans ?_⟩
 constructor
 ·rintro ⟨_,h⟩ o ho e he i hi
  have:=h o ho i hi ((nth a.Ops o).Arity.toNat-1-e) (by omega)
  rw [show (nth a.Ops o).Arity.toNat-1-((nth a.Ops o).Arity.toNat-1-e)=e by omega] at this
  exact this
 ·intro h
  exact ⟨rfl,fun o ho i hi k hk=>h o ho _ (by omega) i hi⟩
def Gq (a:SAlgebra) (n:Nat) (p:List Int):Prop:=Bz n p∧Alx a n p
end
end Go.Proofs.YtjcekpmojnnmbaaGreat.Ax
namespace Go.Proofs.YtjcekpmojnnmbaaGreat.Ax
open Go Classical
structure Perm (f:List Int) (n:Nat):Prop where
 len:f.length=n
 fin:Eo f n
 un:uniq f
theorem Perm.count {f:List Int} {n:Nat} (h:Perm f n) : ∀i,i≤n→(Ct n fun z=>decide ((z:Int)∈f.take i)).length=i:=by
 intro i
 induction i with
 | zero=>
   intro _
   rw [List.length_eq_zero_iff]
   exact Ayk.2 fun z _=>by simp
 | succ i ih=>
   intro hi
   have hil:i<f.length:=by rw [h.len];exact hi
   have hv:=h.fin _ (Ak hil)
   have hu:=h.un i hil
   have hc:nth f i=(((nth f i).toNat:Nat):Int):=by omega
   have:=Axw (q:=fun z=>decide ((z:Int)∈f.take i)) (q':=fun z=>decide ((z:Int)∈f.take (i+1))) (x:=(nth f i).toNat) (dfa0 (by rw [←hc];exact hu)) (fun z=>by
    rw [Lt hil,Bool.eq_iff_iff]
    simp only [decide_eq_true_eq,List.mem_append,List.mem_singleton,Bool.or_eq_true]
    constructor
    ·rintro (h1 | h1)
     ·exact .inl h1
     ·exact .inr (by omega)
    ·rintro (h1 | h1)
     ·exact .inl h1
     ·exact .inr (by omega)) n
   rw [this,ih (by omega),if_pos (by omega)]
section
variable {a:SAlgebra} {f:List Int} {n:Nat}
end
end Go.Proofs.YtjcekpmojnnmbaaGreat.Ax
namespace Go.Proofs.YtjcekpmojnnmbaaGreat.Ax
open Go Classical
section
variable {a b:SAlgebra} {f:List Int} {n m:Nat}
end
section
variable {a b:SAlgebra} {f:List Int}
end
section
variable {a b c:SAlgebra} {f g:List Int}
end
section
variable {a b:SAlgebra} {f:List Int}
end
end Go.Proofs.YtjcekpmojnnmbaaGreat.Ax
namespace Go.Proofs.YtjcekpmojnnmbaaGreat.Ax
open Go Classical
theorem Ann {β:Type} (k:ByteArray) (v:β) (k':ByteArray) : ∀(l:List (ByteArray×β)),Fu (Jx l k v) k'=if k'=k then some v else Fu l k'
 | []=>by simp [Jx,Fu]
 | (a,b)::r=>by
   simp only [Jx]
   by_cases h1:k=a
   ·subst h1
    rw [if_pos rfl]
    simp only [Fu]
    by_cases h2:k'=k
    ·rw [if_pos h2,if_pos h2]
    ·rw [if_neg h2,if_neg h2,if_neg h2]
   ·rw [if_neg h1]
    simp only [Fu]
    rw [Ann k v k' r]
    by_cases h2:k'=a
    ·rw [if_pos h2,if_pos h2,if_neg (fun e=>h1 (by rw [←e,h2]))]
    ·rw [if_neg h2,if_neg h2]
theorem Auf (ns:List Int) : ∀b:ByteArray,(ns.foldl (fun r n=>r.push (UInt8.ofNat n.toNat)) b).data.toList=b.data.toList++ns.map fun n=>UInt8.ofNat n.toNat:=by
 induction ns with
 | nil=>intro b;simp
 | cons n r ih=>
   intro b
   simp only [List.foldl_cons,List.map_cons]
   rw [ih]
   simp [ByteArray.push]
theorem Ay8 {a b:Int} (ha:0≤a∧a≤255) (hb:0≤b∧b≤255) (h:UInt8.ofNat a.toNat=UInt8.ofNat b.toNat):a=b:=by
 have:=congrArg UInt8.toNat h
 simp [UInt8.toNat_ofNat'] at this
 omega
theorem Ax1 {ns ms:List Int} (hn : ∀x∈ns,0≤x∧x≤255) (hm : ∀x∈ms,0≤x∧x≤255) (h:Wp ns=Wp ms):ns=ms:=by
 have e:=congrArg (fun b:ByteArray=>b.data.toList) h
 simp only [Wp,Auf] at e
 have e2:(ns.map fun n:Int=>UInt8.ofNat n.toNat)=ms.map fun n:Int=>UInt8.ofNat n.toNat:=by simpa using e
 clear e h
 induction ns generalizing ms with
 | nil=>
   cases ms with
   | nil=>rfl
   | cons _ _=>cases e2
 | cons a r ih=>
   cases ms with
   | nil=>cases e2
   | cons b s=>
     simp only [List.map_cons,List.cons.injEq] at e2
     rw [Ay8 (hn a (by simp)) (hm b (by simp)) e2.1,ih (fun x hx=>hn x (by simp [hx])) (fun x hx=>hm x (by simp [hx])) e2.2]
def byt (x:Int):List Int:=[IntKind.u8.wrap (x.fdiv (2^min (Int.toNat 8) IntKind.i64.bits)),IntKind.u8.wrap x]
theorem Azz (n:Int):IntKind.u8.wrap n=n%256:=by simp [IntKind.wrap,IntKind.bits,IntKind.signed]
theorem A1k {x:Int} (h0:0≤x) (h1:x<65536):byt x=[x/256,x%256]:=by
 unfold byt
 have e:(2:Int)^min (Int.toNat 8) IntKind.i64.bits=256:=by decide
 rw [e,Azz,Azz,Int.fdiv_eq_ediv_of_nonneg _ (by omega)]
 congr 1
 omega
theorem Ayy (x:Int) : ∀y∈byt x,0≤y∧y≤255:=by
 intro y hy
 unfold byt at hy
 simp only [List.mem_cons,List.not_mem_nil,or_false] at hy
 rcases hy with rfl | rfl<;>(rw [Azz];omega)
def Ar3 (xs:List Int):ByteArray:=Wp (xs.flatMap byt)
theorem Ao1 : ∀ {xs ys:List Int},(∀x∈xs,0≤x∧x<65536)→(∀x∈ys,0≤x∧x<65536)→xs.flatMap byt=ys.flatMap byt→xs=ys:=by
 intro xs
 induction xs with
 | nil=>
   intro ys _ _ h
   cases ys with
   | nil=>rfl
   | cons y r=>simp [byt] at h
 | cons x r ih=>
   intro ys hx hy h
   cases ys with
   | nil=>simp [byt] at h
   | cons y s=>
     have h1:=hx x (by simp)
     have h2:=hy y (by simp)
     simp only [List.flatMap_cons,A1k h1.1 h1.2,A1k h2.1 h2.2,List.cons_append,List.nil_append,List.cons.injEq] at h
     rw [ih (fun z hz=>hx z (by simp [hz])) (fun z hz=>hy z (by simp [hz])) h.2.2,show x=y by omega]
theorem Ay4 {xs ys:List Int} (hx : ∀x∈xs,0≤x∧x<65536) (hy : ∀x∈ys,0≤x∧x<65536) (h:Ar3 xs=Ar3 ys):xs=ys:=by
 refine Ao1 hx hy (Ax1 ?_ ?_ h)
 ·intro y hy
  obtain ⟨x,_,hy⟩:=List.mem_flatMap.1 hy
  exact Ayy x y hy
 ·intro y hy
  obtain ⟨x,_,hy⟩:=List.mem_flatMap.1 hy
  exact Ayy x y hy
theorem A0e (xs:List Int):(xs.flatMap byt).length=2*xs.length:=by
 induction xs with
 | nil=>rfl
 | cons x r ih=>simp only [List.flatMap_cons,List.length_append,ih,List.length_cons];simp [byt];omega
theorem Au8 {xs:List Int} (hl:xs.length≤1048576):Je xs=some (Ar3 xs):=by
 have hL:=Bn
 unfold Je
 rw [Ae (by unfold InI;omega),Ae (by omega)]
 have key:=Fm (body:=Fh xs) (fun i=>((i:Int),(xs.take i).flatMap byt)) xs.length (xs.flatMap byt) (fun i hi=>by
  have h1:=A0e (xs.take i)
  unfold Fh
  dsimp only
  rw [if_pos (by omega),Ae (by omega),tna0,Ae (by rw [h1,List.length_take];simp only [List.length_cons,List.length_nil];omega),Ae (by unfold InI;omega),Lt hi,List.flatMap_append]
  simp [byt]) (by
  unfold Fh
  dsimp only
  rw [if_neg (by omega),List.take_length])
 have key':Al (Fh xs) (0,Aw Int)=_:=key
 rw [key'];rfl
def Ary (S:List (ByteArray×Bool)) (rows:List (List Int)):Prop := ∀k,(Fu S k).getD false=decide (∃t∈rows,Ar3 t=k)
theorem A0n:Ary (Aw (ByteArray×Bool)) []:=fun k=>by simp [Fu]
theorem Am1 {S:List (ByteArray×Bool)} {rows:List (List Int)} (h:Ary S rows) (t:List Int):Ary (Jx S (Ar3 t) true) (rows++[t]):=by
 intro k
 rw [Ann]
 by_cases hk:k=Ar3 t
 ·rw [if_pos hk]
  exact (dtr0 ⟨t,by simp,hk.symm⟩).symm
 ·rw [if_neg hk,h k,decide_eq_decide]
  constructor
  ·rintro ⟨u,hu,e⟩;exact ⟨u,by simp [hu],e⟩
  ·rintro ⟨u,hu,e⟩
   rcases List.mem_append.1 hu with h1 | h1
   ·exact ⟨u,h1,e⟩
   ·rw [List.mem_singleton.1 h1] at e
    exact absurd e.symm hk
theorem Abd {n:Nat} (_hn:0<n) : ∀r k,k<n^r→U9 n (Dw n r k)=(k:Int):=by
 intro r
 induction r with
 | zero=>intro k hk;simp at hk;subst hk;rfl
 | succ r ih=>
   intro k hk
   have hd:k/n<n^r:=Nat.div_lt_of_lt_mul (by rw [Nat.mul_comm,←Nat.pow_succ];exact hk)
   simp only [Dw]
   rw [La,ih _ hd,←Int.natCast_mul,←Int.natCast_add,Nat.mul_comm,Nat.div_add_mod]
theorem Awz {n:Nat} (hn:0<n) : ∀r (xs:List Int),xs.length=r→Eo xs n→Dw n r (U9 n xs).toNat=xs:=by
 intro r
 induction r with
 | zero=>intro xs hl _;rw [List.length_eq_zero_iff.1 hl];rfl
 | succ r ih=>
   intro xs hl hx
   obtain ⟨ys,y,rfl⟩ : ∃ys y,xs=ys++[y]:=⟨xs.take r,nth xs r,by rw [←Lt (by omega),List.take_of_length_le (by omega)]⟩
   have hy:=hx y (by simp)
   have hys:Eo ys n:=fun z hz=>hx z (by simp [hz])
   have hyl:ys.length=r:=by simpa using hl
   obtain ⟨c,h1,_⟩:=Apr r ys hyl hys
   obtain ⟨d,rfl⟩:=Int.eq_ofNat_of_zero_le hy.1
   have hd:d<n:=by omega
   have e:(U9 n (ys++[(d:Int)])).toNat=c*n+d:=by
    rw [La,h1,←Int.natCast_mul,←Int.natCast_add,tna0]
   rw [e]
   simp only [Dw]
   rw [show (c*n+d)/n=c by rw [Nat.mul_comm,Nat.mul_add_div hn,Nat.div_eq_of_lt hd];omega,show (c*n+d)%n=d by rw [Nat.mul_comm,Nat.mul_add_mod,Nat.mod_eq_of_lt hd]]
   have:=ih ys hyl hys
   rw [h1,tna0] at this
   rw [this]
end Go.Proofs.YtjcekpmojnnmbaaGreat.Ax
namespace Go.Proofs.YtjcekpmojnnmbaaGreat.Ax
open Go Classical
def hT (n r:Nat) (y:Nat→Int):Int:=U9 n ((List.range r).map y)
theorem Xs {n r:Nat} {y z:Nat→Int} (h : ∀i,i<r→y i=z i):hT n r y=hT n r z:=by
 unfold hT
 congr 1
 exact List.map_congr_left fun i hi=>h i (List.mem_range.1 hi)
theorem A3w {n r:Nat} {y:Nat→Int} (h : ∀i,i<r→0≤y i∧y i<n):Eo ((List.range r).map y) n:=by
 intro v hv
 obtain ⟨i,hi,rfl⟩:=List.mem_map.1 hv
 exact h i (List.mem_range.1 hi)
theorem Asn {n r:Nat} {y:Nat→Int} (hn:n≤8) (hr:r≤3) (h : ∀i,i<r→0≤y i∧y i<n) : ∃c:Nat,hT n r y=(c:Int)∧c<n^r∧c<512:=by
 obtain ⟨c,h1,h2,h3⟩:=Wa hn (xs:=(List.range r).map y) (by simpa using hr) (A3w h)
 exact ⟨c,h1,by simpa using h2,h3⟩
structure OpR (n r:Nat) (f:SOp):Prop where
 ar:f.Arity=r
 le:r≤2
 len:f.Table.length=n^r
 fin:Eo f.Table n
theorem OpR.at {n r:Nat} {f:SOp} (h:OpR n r f) (hn:n≤8) {y:Nat→Int} (hy : ∀i,i<r→0≤y i∧y i<n):(∃c:Nat,hT n r y=(c:Int)∧c<f.Table.length∧c<512)∧0≤nth f.Table (hT n r y).toNat∧nth f.Table (hT n r y).toNat<n:=by
 obtain ⟨c,h1,h2,h3⟩:=Asn hn (by have:=h.le;omega) hy
 rw [←h.len] at h2
 exact ⟨⟨c,h1,h2,h3⟩,by rw [h1,tna0];exact h.fin _ (Ak h2)⟩
section
variable {n r s:Nat} {f g:SOp}
end
def Arc (n:Int) (f g:SOp):Prop:=1≤n∧n≤4∧Asp n.toNat f∧Asp n.toNat g∧f.Arity≤2∧g.Arity≤2
theorem Arc.symm {n:Int} {f g:SOp} (h:Arc n f g):Arc n g f:=⟨h.1,h.2.1,h.2.2.2.1,h.2.2.1,h.2.2.2.2.2,h.2.2.2.2.1⟩
theorem Arc.ops {n:Int} {f g:SOp} (h:Arc n f g):OpR n.toNat f.Arity.toNat f∧OpR n.toNat g.Arity.toNat g:=by
 obtain ⟨h1,h2,h3,h4,h5,h6⟩:=h
 obtain ⟨a1,a2,a3,a4⟩:=h3
 obtain ⟨b1,b2,b3,b4⟩:=h4
 exact ⟨⟨by omega,by omega,a3,a4⟩,⟨by omega,by omega,b3,b4⟩⟩
end Go.Proofs.YtjcekpmojnnmbaaGreat.Ax
namespace Go.Proofs.YtjcekpmojnnmbaaGreat.Ax
open Go Classical
structure OpQ (n r:Nat) (f:SOp):Prop where
 ar:f.Arity=r
 le:r≤3
 len:f.Table.length=n^r
 fin:Eo f.Table n
theorem OpQ.at {n r:Nat} {f:SOp} (h:OpQ n r f) (hn:n≤8) {y:Nat→Int} (hy : ∀i,i<r→0≤y i∧y i<n):(∃c:Nat,hT n r y=(c:Int)∧c<f.Table.length∧c<512)∧0≤nth f.Table (hT n r y).toNat∧nth f.Table (hT n r y).toNat<n:=by
 obtain ⟨c,h1,h2,h3⟩:=Asn hn (by have:=h.le;omega) hy
 rw [←h.len] at h2
 exact ⟨⟨c,h1,h2,h3⟩,by rw [h1,tna0];exact h.fin _ (Ak h2)⟩
def A0z (p:List Int) (n r:Nat) (f:SOp):Prop := ∀x y:Nat→Int,(∀i,i<r→0≤x i∧x i<n)→(∀i,i<r→0≤y i∧y i<n)→(∀i,i<r→nth p (x i).toNat=nth p (y i).toNat)→nth p (nth f.Table (hT n r x).toNat).toNat=nth p (nth f.Table (hT n r y).toNat).toNat
theorem Vz {xs:List Int} {m:Nat} (h:xs.length=m):(List.range m).map (fun j=>nth xs j)=xs:=by
 refine List.ext_getElem (by simp [h]) fun i h1 h2=> ?_
 simp only [List.getElem_map,List.getElem_range]
 rw [C2 h2]
section
variable {n r:Nat} {f:SOp} {p:List Int}
theorem Acm (hp:Bz n p) {v:Int} (hv:0≤v∧v<n):0≤nth p v.toNat∧nth p v.toNat<n∧nth p (nth p v.toNat).toNat=nth p v.toNat:=by
 obtain ⟨q1,q2,q3⟩:=hp.2 v.toNat (by omega)
 exact ⟨q1,by omega,q3⟩
theorem Ahy (h1:1≤n) (_hp:Bz n p) {x:Nat→Int} (hx : ∀i,i<r→0≤x i∧x i<n) {m:Nat} (hm:m<r) {c:Nat} (hc:hT n r x=(c:Int)) (hcn:c<n^r):hT n r (fun i=>if i=m then nth p (x m).toNat else x i)=Aeu n p (r-1-m) c:=by
 have e:=Awz (by omega) r ((List.range r).map x) (by simp) (A3w hx)
 have hc':U9 n ((List.range r).map x)=(c:Int):=hc
 rw [hc',tna0] at e
 have hs:=Zb p r c m hcn hm
 rw [←hs,e]
 unfold hT
 congr 1
 refine Lm (by simp) fun i hi=> ?_
 have hi:i<r:=by simpa using hi
 have el : ∀(y:Nat→Int) j,j<r→nth ((List.range r).map y) j=y j:=fun y j hj=>by rw [Ki _ (by simpa using hj),Aev hj]
 rw [E4 _ _ _ _ (by simpa using hi),el _ i hi,el x i hi,el x m hm]
 by_cases h:i=m
 ·rw [if_pos h,if_pos h.symm]
 ·rw [if_neg h,if_neg (fun hh=>h hh.symm)]
theorem Ane (h1:1≤n) (h8:n≤8) (hp:Bz n p) (hf:OpQ n r f):(∀e,e<r → ∀i,i<f.Table.length→nth p (nth f.Table i).toNat=nth p (nth f.Table (Aeu n p e i).toNat).toNat)↔A0z p n r f:=by
 constructor
 ·intro h x y hx hy hxy
  have key : ∀x:Nat→Int,(∀i,i<r→0≤x i∧x i<n) → ∀m,m≤r→nth p (nth f.Table (hT n r x).toNat).toNat=nth p (nth f.Table (hT n r fun i=>if i<m then nth p (x i).toNat else x i).toNat).toNat:=by
   intro x hx m
   induction m with
   | zero=>intro _;rw [Xs (z:=x) fun i _=>if_neg (by omega)]
   | succ m ih=>
     intro hm
     rw [ih (by omega)]
     have hz : ∀i,i<r→0≤(if i<m then nth p (x i).toNat else x i)∧(if i<m then nth p (x i).toNat else x i)<n:=fun i hi=>by
      split
      ·have:=Acm hp (hx i hi);omega
      ·exact hx i hi
     obtain ⟨⟨c,c1,c2,_⟩,_⟩:=hf.at h8 hz
     have hs:=Ahy (m:=m) h1 hp hz (by omega) c1 (by rw [←hf.len];exact c2)
     rw [c1,tna0,h (r-1-m) (by omega) c c2,←hs]
     congr 4
     refine Xs fun i _=> ?_
     by_cases him:i=m
     ·subst him
      rw [if_pos rfl,if_neg (by omega),if_pos (by omega)]
     ·rw [if_neg him]
      by_cases hl:i<m
      ·rw [if_pos hl,if_pos (by omega)]
      ·rw [if_neg hl,if_neg (by omega)]
  rw [key x hx r (Nat.le_refl _),key y hy r (Nat.le_refl _)]
  congr 4
  exact Xs fun i hi=>by rw [if_pos hi,if_pos hi,hxy i hi]
 ·intro h e he i hi
  rw [hf.len] at hi
  have hx : ∀j,j<r→0≤nth (Dw n r i) j∧nth (Dw n r i) j<n:=fun j hj=>Vq (by omega) r i _ (Ak (by rw [Hb];exact hj))
  have e0:hT n r (fun j=>nth (Dw n r i) j)=(i:Int):=by
   unfold hT
   rw [Vz (Hb n r i),Abd (by omega) r i hi]
  have hs:=Ahy (m:=r-1-e) h1 hp hx (by omega) e0 hi
  rw [show r-1-(r-1-e)=e by omega] at hs
  have:=h (fun j=>nth (Dw n r i) j) (fun j=>if j=r-1-e then nth p (nth (Dw n r i) (r-1-e)).toNat else nth (Dw n r i) j) hx (fun j hj=>by
   split
   ·have:=Acm hp (hx (r-1-e) (by omega));omega
   ·exact hx j hj) (fun j hj=>by
   split
   ·rename_i hje
    subst hje
    exact (Acm hp (hx _ hj)).2.2.symm
   ·rfl)
  rw [hs,e0,tna0] at this
  exact this
end
section
variable {a:SAlgebra} {n:Nat} {p:List Int}
theorem Atz (ga:Cf a) (hn:a.Size=n) {o:Nat} (ho:o<a.Ops.length):OpQ n (nth a.Ops o).Arity.toNat (nth a.Ops o)∧Asp n (nth a.Ops o):=by
 obtain ⟨r,r1,r2,r3,r4,_⟩:=opX ga hn ho
 have e:(nth a.Ops o).Arity.toNat=r:=by omega
 have hn':a.Size.toNat=n:=by omega
 refine ⟨⟨by omega,by omega,by rw [e];exact r3,r4⟩,?_⟩
 have:=ga.2.2.2 _ (Ak ho)
 rwa [hn'] at this
end
end Go.Proofs.YtjcekpmojnnmbaaGreat.Ax
namespace Go.Proofs.YtjcekpmojnnmbaaGreat.Ax
open Go Classical
def Ce (n:Nat):List Int:=(List.range n).map fun i:Nat=>(i:Int)
end Go.Proofs.YtjcekpmojnnmbaaGreat.Ax
namespace Go.Proofs.YtjcekpmojnnmbaaGreat.Ax
open Go Classical
section
theorem Vk {n:Nat} (hn:n≤1000):Cs n=some (Ce n):=by
 unfold Cs
 have key:=Fm (body:=C0 n) (fun i=>((i:Int),Ce i)) n (Ce n) (fun i hi=>by
  unfold C0
  dsimp only
  have hl:(Ce i).length=i:=by simp [Ce]
  rw [if_pos (by omega),Ae (by rw [Bn];simp only [List.length_cons,List.length_nil];omega),Ae (by unfold InI;omega)]
  have e:Ce (i+1)=Ce i++[(i:Int)]:=by simp [Ce,List.range_succ]
  rw [e];rfl) (by
  unfold C0
  dsimp only
  rw [if_neg (by omega)])
 have key':Al (C0 n) (0,Aw Int)=_:=key
 rw [key'];rfl
end
end Go.Proofs.YtjcekpmojnnmbaaGreat.Ax
namespace Go.Proofs.YtjcekpmojnnmbaaGreat.Ax
open Go
def Cur (k:Nat) (c:Sl1Cur):Prop:=(∀x∈c.code,0≤x∧x≤255)∧c.code.length≤65536∧0≤c.at_∧c.at_≤k
theorem Cur.mono {k l:Nat} {c:Sl1Cur} (h:Cur k c) (hl:k≤l):Cur l c:=⟨h.1,h.2.1,h.2.2.1,by have:=h.2.2.2;omega⟩
theorem Ayw {n:Int} (h0:0≤n) (h1:n≤255):IntKind.u64.wrap n=n:=by
 simp [IntKind.wrap,IntKind.bits,IntKind.signed]
 omega
theorem Amu {c:Sl1Cur} {k:Nat} (h:Cur k c) (hk:k≤1000000000) : ∃r d,E6 c=some (r,d)∧Cur (k+1) d∧0≤r∧r≤255:=by
 obtain ⟨h1,h2,h3,h4⟩:=h
 unfold E6
 have fin : ∀q:Int,0≤q→q≤255 → ∃r d,(ask (InI (c.at_+1)) <|
   if c.at_+1≤(c.code.length:Int) then
    some (q,({ code:=c.code,at_:=c.at_+1,seed:=IntKind.u64.wrap (IntKind.u64.wrap (IntKind.u64.wrap (c.seed*6364136223846793005)+IntKind.u64.wrap q)+550289) }:Sl1Cur))
   else some (IntKind.i64.wrap (IntKind.u64.wrap (((BitVec.ofInt IntKind.u64.bits ((IntKind.u64.wrap (IntKind.u64.wrap (IntKind.u64.wrap (c.seed*6364136223846793005)+IntKind.u64.wrap q)+550289)).fdiv (2^min (Int.toNat 40) IntKind.u64.bits)) &&& BitVec.ofInt IntKind.u64.bits 255).toNat:Nat):Int)),
    ({ code:=c.code,at_:=c.at_+1,seed:=IntKind.u64.wrap (IntKind.u64.wrap (IntKind.u64.wrap (c.seed*6364136223846793005)+IntKind.u64.wrap q)+550289) }:Sl1Cur)))=some (r,d)∧Cur (k+1) d∧0≤r∧r≤255:=by
  intro q hq0 hq1
  rw [Ae (by unfold InI;omega)]
  split
  ·exact ⟨_,_,rfl,⟨h1,h2,by show 0≤c.at_+1;omega,by show c.at_+1≤((k+1:Nat):Int);omega⟩,hq0,hq1⟩
  ·refine ⟨_,_,rfl,⟨h1,h2,by show 0≤c.at_+1;omega,by show c.at_+1≤((k+1:Nat):Int);omega⟩,?_⟩
   generalize BitVec.ofInt IntKind.u64.bits ((IntKind.u64.wrap (IntKind.u64.wrap (IntKind.u64.wrap (c.seed*6364136223846793005)+IntKind.u64.wrap q)+550289)).fdiv (2^min (Int.toNat 40) IntKind.u64.bits))=b
   have hb:(b &&& BitVec.ofInt IntKind.u64.bits 255).toNat≤255:=by
    rw [BitVec.toNat_and]
    have:(BitVec.ofInt IntKind.u64.bits 255).toNat=255:=by decide
    rw [this]
    exact Nat.and_le_right
   generalize (b &&& BitVec.ofInt IntKind.u64.bits 255).toNat=z at hb
   rw [Ayw (by omega) (by omega),Y4 (by omega) (by omega)]
   omega
 by_cases hc:c.at_<(c.code.length:Int)
 ·rw [if_pos hc,Ae ⟨h3,hc⟩]
  have hm:=h1 _ (Ak (xs:=c.code) (i:=c.at_.toNat) (by omega))
  rw [Y4 (by omega) (by omega)]
  simp only [obs0]
  exact fin _ hm.1 hm.2
 ·rw [if_neg hc]
  simp only [obs0]
  exact fin 0 (by omega) (by omega)
theorem Mw {c:Sl1Cur} {k:Nat} (h:Cur k c) (hk:k≤900000000) (n:Int) : ∃r d,B0 c n=some (r,d)∧Cur (k+2) d∧0≤r∧(r<n∨(n≤1∧r=0)):=by
 unfold B0
 by_cases h1:n≤1
 ·rw [if_pos h1];exact ⟨0,c,rfl,h.mono (by omega),by omega,.inr ⟨h1,rfl⟩⟩
 ·rw [if_neg h1]
  obtain ⟨r,d,e,hd,a1,a2⟩:=Amu h (by omega)
  simp only [e,obs0]
  by_cases h2:n>200
  ·rw [if_pos h2,Ae (by unfold InI;omega)]
   obtain ⟨r2,d2,e2,hd2,b1,b2⟩:=Amu hd (by omega)
   simp only [e2,obs0]
   rw [Ae (by unfold InI;omega),Ae (by omega)]
   refine ⟨_,_,rfl,hd2,Int.tmod_nonneg _ (by omega),.inl ?_⟩
   exact Int.tmod_lt_of_pos _ (by omega)
  ·rw [if_neg h2,Ae (by omega)]
   refine ⟨_,_,rfl,hd.mono (by omega),Int.tmod_nonneg _ (by omega),.inl ?_⟩
   exact Int.tmod_lt_of_pos _ (by omega)
theorem Ay6 {c:Sl1Cur} {k:Nat} (h:Cur k c) (hk:k≤900000000) (n:Int) : ∃b d,Hc c n=some (b,d)∧Cur (k+2) d:=by
 unfold Hc
 obtain ⟨r,d,e,hd,_,_⟩:=Mw h hk n
 simp only [e,obs0]
 exact ⟨_,_,rfl,hd⟩
theorem M6 {c:Sl1Cur} {k:Nat} (h:Cur k c) (hk:k≤900000000) (l:List Int) (h0:0<l.length) : ∃r d,B7 c l=some (r,d)∧Cur (k+2) d∧r∈l:=by
 unfold B7
 obtain ⟨r,d,e,hd,a1,a2⟩:=Mw h hk (l.length:Int)
 simp only [e,obs0]
 rw [Ae (by omega)]
 exact ⟨_,_,rfl,hd,Ak (by omega)⟩
open Classical
end Go.Proofs.YtjcekpmojnnmbaaGreat.Ax
namespace Go.Proofs.YtjcekpmojnnmbaaGreat.Ax
open Go Classical
def Ao5 (n r k:Nat) (S:Nat→Bool):Prop := ∀x∈Dw n r k,S x.toNat=true
theorem Ars {n r k:Nat} {S T:Nat→Bool} (h : ∀z,S z=true→T z=true) (hi:Ao5 n r k S):Ao5 n r k T:=fun x hx=>h _ (hi x hx)
def Aww (a:SAlgebra) (i k:Nat):Nat:=(nth (nth a.Ops i).Table k).toNat
def A04 (a:SAlgebra) (i k:Nat) (S:Nat→Bool):Prop:=Ao5 a.Size.toNat (nth a.Ops i).Arity.toNat k S
def Y9 (a:SAlgebra) (S:Nat→Bool):Prop := ∀i,i<a.Ops.length → ∀k,k<(nth a.Ops i).Table.length→A04 a i k S→S (Aww a i k)=true
noncomputable def As7 (a:SAlgebra) (S:Nat→Bool):Nat→Bool:=fun z=>decide (∀T:Nat→Bool,(∀x,S x=true→T x=true)→Y9 a T→T z=true)
theorem Ani {a:SAlgebra} {S:Nat→Bool} (z:Nat) (h:S z=true):As7 a S z=true:=dtr0 fun _ hT _=>hT z h
theorem Aqq {a:SAlgebra} {S:Nat→Bool}:Y9 a (As7 a S):=by
 intro i hi k hk ha
 refine dtr0 fun T hT hc=> ?_
 exact hc i hi k hk fun x hx=>of_decide_eq_true (ha x hx) T hT hc
theorem Aub {a:SAlgebra} {S T:Nat→Bool} (hT : ∀x,S x=true→T x=true) (hc:Y9 a T) (z:Nat) (h:As7 a S z=true):T z=true:=of_decide_eq_true h T hT hc
theorem Axg {a:SAlgebra} {S:Nat→Bool} (hc:Y9 a S):As7 a S=S:=by
 funext z
 cases h:S z with
 | true=>exact Ani z h
 | false=>
   cases h2:As7 a S z with
   | false=>rfl
   | true=>rw [Aub (fun _ h=>h) hc z h2] at h;cases h
def A3h (H:List Bool):Nat:=H.count true
section
variable {a:SAlgebra}
structure ReadyA (a:SAlgebra) (n:Nat):Prop where
 good:Cf a
 sz:a.Size=(n:Int)
 pos:0<n
 le:n≤8
theorem ReadyA.nat {n:Nat} (h:ReadyA a n):a.Size.toNat=n:=by have:=h.sz;omega
theorem ReadyA.op {n:Nat} (h:ReadyA a n) {i:Nat} (hi:i<a.Ops.length) : ∃r:Nat,(nth a.Ops i).Arity=(r:Int)∧r≤3∧(nth a.Ops i).Table.length=n^r∧Eo (nth a.Ops i).Table n∧(nth a.Ops i).Table.length≤512∧(∀k S,A04 a i k S↔Ao5 n r k S):=by
 have:=h.good.2.2.2 _ (Ak hi)
 rw [h.nat] at this
 obtain ⟨h1,h2,h3,h4⟩:=this
 refine ⟨(nth a.Ops i).Arity.toNat,by omega,by omega,h3,h4,?_,fun k S=>by unfold A04;rw [h.nat]⟩
 rw [h3];exact Xt h.le (by omega)
theorem ReadyA.val {n:Nat} (h:ReadyA a n) {i k:Nat} (hi:i<a.Ops.length) (hk:k<(nth a.Ops i).Table.length):nth (nth a.Ops i).Table k=(Aww a i k:Int)∧Aww a i k<n:=by
 obtain ⟨r,_,_,_,h4,_⟩:=h.op hi
 have:=h4 _ (Ak hk)
 unfold Aww
 omega
structure Pass (n:Nat) (G:Nat→Bool) (c0:Bool) (H0:List Bool) (c:Bool) (H:List Bool) (done:(Nat→Bool)→Prop):Prop where
 len:H.length=n
 more : ∀z,nth H0 z=true→nth H z=true
 low : ∀z,nth H z=true→G z=true
 up:c=true→c0=true∨A3h H0<A3h H
 no:c=false→c0=false∧H=H0∧done (nth H)
 mono:A3h H0≤A3h H
def Ats (a:SAlgebra) (n:Nat) (xs:List Int):Prop:=Eo xs n∧Aab xs∧Ct n (As7 a fun z=>decide ((z:Int)∈xs))=xs
theorem Aug {n:Nat} (h:ReadyA a n) {xs:List Int}:Ats a n xs↔Eo xs n∧Aab xs∧Y9 a fun z=>decide ((z:Int)∈xs):=by
 constructor
 ·rintro ⟨h1,h2,h3⟩
  refine ⟨h1,h2,fun i hi k hk ha=> ?_⟩
  have hv:=(h.val hi hk).2
  have h4:As7 a (fun z=>decide ((z:Int)∈xs)) (Aww a i k)=true:=Aqq i hi k hk (Ars (fun z hz=>Ani z hz) ha)
  have h5:((Aww a i k:Nat):Int)∈Ct n (As7 a fun z=>decide ((z:Int)∈xs)):=U3.2 ⟨_,hv,h4,rfl⟩
  rw [h3] at h5
  exact dtr0 h5
 ·rintro ⟨h1,h2,h3⟩
  exact ⟨h1,h2,by rw [Axg h3];exact Au4 h1 h2⟩
end
end Go.Proofs.YtjcekpmojnnmbaaGreat.Ax
namespace Go.Proofs.YtjcekpmojnnmbaaGreat.Ax
open Go Classical
theorem Avx {α β:Type} {o:Option α} {k:α→Option β} {Q:α→Prop} {R:β→Prop} (h : ∃a,o=some a∧Q a) (h2 : ∀a,Q a → ∃b,k a=some b∧R b) : ∃b,o.bind k=some b∧R b:=by
 obtain ⟨a,e,hq⟩:=h
 rw [e];exact h2 a hq
theorem A5g {β:Type} {c:Prop} [Decidable c] {x y:Option β} {R:β→Prop} (h1:c → ∃b,x=some b∧R b) (h2:¬c → ∃b,y=some b∧R b) : ∃b,(if c then x else y)=some b∧R b:=by
 split
 ·exact h1 ‹_›
 ·exact h2 ‹_›
def X0 (a:SAlgebra):Prop:=a.Ops.length≤10 ∧ ∀f∈a.Ops,f.Table.length≤101
theorem Aqk {a:SAlgebra} (h:X0 a):Rb a:=⟨by have:=h.1;omega,fun f hf=>by have:=h.2 f hf;omega⟩
theorem Ar4 (s:ByteArray) (hs:s.size≤100) : ∃f,A8 s=some f∧f.Table.length≤100:=by
 have hL:=Bn
 unfold A8
 obtain ⟨f,e,hf⟩:=C8 (body:=Ga s) (fun t => ∃j:Nat,t.1=(j:Int)∧j≤s.size∧t.2.Table.length≤j) (fun t=>s.size-t.1.toNat) (fun f=>f.Table.length≤100) (fun t ht=>by
  obtain ⟨x4,x3⟩:=t
  obtain ⟨j,g1,g2,g3⟩:=ht
  simp only at g1 g2 g3
  subst g1
  unfold Ga
  dsimp only
  by_cases hj:(j:Int)<(s.size:Int)
  ·left
   rw [if_pos hj,Ae (by omega),Ae (by simp;omega),Ae (by unfold InI;omega)]
   exact ⟨_,rfl,⟨j+1,rfl,by omega,by simp;omega⟩,by simp only;omega⟩
  ·right
   rw [if_neg hj]
   exact ⟨_,rfl,by omega⟩) (s:=((0:Int),({ Arity:=2,Table:=Aw Int }:SOp))) ⟨0,rfl,Nat.zero_le _,by simp [Aw]⟩
 rw [e]
 exact ⟨_,rfl,hf⟩
theorem Asi {n:Int} (hn:n=2∨n=3) : ∃f,Gj n=some f∧f.Table.length≤100:=by
 have hL:=Bn
 unfold Gj
 obtain ⟨f,e,hf⟩:=C8 (body:=F2 n) (fun t => ∃j:Nat,t.1=(j:Int)∧j≤27∧t.2.Table.length≤j) (fun t=>27-t.1.toNat) (fun f=>f.Table.length≤100) (fun t ht=>by
  obtain ⟨x4,x3⟩:=t
  obtain ⟨j,g1,g2,g3⟩:=ht
  simp only at g1 g2 g3
  subst g1
  unfold F2
  dsimp only
  have d1 : ∀m:Int,(j:Int).tdiv m=(j:Int)/m:=fun m=>Int.tdiv_eq_ediv_of_nonneg (by omega)
  have d2 : ∀m:Int,(j:Int).tmod m=(j:Int)%m:=fun m=>Int.tmod_eq_emod_of_nonneg (by omega)
  rw [d1,d1,d2]
  rcases hn with rfl | rfl
  ·have d3:((j:Int)/2).tmod 2=((j:Int)/2)%2:=Int.tmod_eq_emod_of_nonneg (by omega)
   rw [d3]
   by_cases hj:(j:Int)<2*2*2
   ·left
    rw [Ae (by unfold InI;omega),Ae (by unfold InI;omega),if_pos hj]
    rw [Ae (by unfold InI;omega),Ae (by unfold InI;omega),Ae (by unfold InI;omega),Ae (by unfold InI;omega),Ae (by omega),Ae (by unfold InI;omega),Ae (by omega),Ae (by unfold InI;omega),Ae (by omega),Ae (by simp;omega),Ae (by unfold InI;omega)]
    exact ⟨_,rfl,⟨j+1,rfl,by omega,by simp;omega⟩,by simp only;omega⟩
   ·right
    rw [Ae (by unfold InI;omega),Ae (by unfold InI;omega),if_neg hj]
    exact ⟨_,rfl,by omega⟩
  ·have d3:((j:Int)/3).tmod 3=((j:Int)/3)%3:=Int.tmod_eq_emod_of_nonneg (by omega)
   rw [d3]
   by_cases hj:(j:Int)<3*3*3
   ·left
    rw [Ae (by unfold InI;omega),Ae (by unfold InI;omega),if_pos hj]
    rw [Ae (by unfold InI;omega),Ae (by unfold InI;omega),Ae (by unfold InI;omega),Ae (by unfold InI;omega),Ae (by omega),Ae (by unfold InI;omega),Ae (by omega),Ae (by unfold InI;omega),Ae (by omega),Ae (by simp;omega),Ae (by unfold InI;omega)]
    exact ⟨_,rfl,⟨j+1,rfl,by omega,by simp;omega⟩,by simp only;omega⟩
   ·right
    rw [Ae (by unfold InI;omega),Ae (by unfold InI;omega),if_neg hj]
    exact ⟨_,rfl,by omega⟩) (s:=((0:Int),({ Arity:=3,Table:=Aw Int }:SOp))) ⟨0,rfl,Nat.zero_le _,by simp [Aw]⟩
 rw [e]
 exact ⟨_,rfl,hf⟩
theorem Apx (k:Int) : ∃a,I0 k=some a∧X0 a:=by
 have fin0 : ∀ {z:Int},X0 { Size:=z,Ops:=Aw SOp }:=⟨by simp [Aw],fun f hf=>by simp [Aw] at hf⟩
 have fin1 : ∀ {z:Int} {f:SOp},f.Table.length≤100→X0 { Size:=z,Ops:=[f] }:=fun h=>⟨by simp,fun f hf=>by simp at hf;subst hf;omega⟩
 have fin2 : ∀ {z:Int} {f g:SOp},f.Table.length≤100→g.Table.length≤100→X0 { Size:=z,Ops:=[f,g] }:=fun h1 h2=>⟨by simp,fun f hf=>by
  simp only [List.mem_cons,List.not_mem_nil,or_false] at hf
  rcases hf with rfl | rfl<;>omega⟩
 have fin3 : ∀ {z:Int} {f g e:SOp},f.Table.length≤100→g.Table.length≤100→e.Table.length≤100→X0 { Size:=z,Ops:=[f,g,e] }:=fun h1 h2 h3=>⟨by simp,fun f hf=>by
  simp only [List.mem_cons,List.not_mem_nil,or_false] at hf
  rcases hf with rfl | rfl | rfl<;>omega⟩
 unfold I0
 repeat' (first | refine A5g (fun _=> ?_) (fun _=> ?_) | refine Avx (Ar4 _ (by decide)) fun f hf=> ?_ | refine Avx (Asi (by simp)) fun f hf=> ?_)
 all_goals
  first
   | exact ⟨_,rfl,fin0⟩
   | exact ⟨_,rfl,fin1 (by first | assumption | decide)⟩
   | exact ⟨_,rfl,fin2 (by first | assumption | decide) (by first | assumption | decide)⟩
   | exact ⟨_,rfl,fin3 (by first | assumption | decide) (by first | assumption | decide) (by first | assumption | decide)⟩
theorem Aqc {c:Sl1Cur} {k:Nat} (h:Cur k c) (hk:k≤600000000) : ∃a d,E0 c=some (a,d)∧Cur (k+1000) d∧X0 a:=by
 have hL:=Bn
 unfold E0
 obtain ⟨b,d,e,hd⟩:=Ay6 h (by omega) 4
 rw [e]
 simp only [obs0]
 by_cases hb:b=true
 ·rw [if_pos hb]
  obtain ⟨n,d2,e2,hd2,hn⟩:=M6 hd (by omega) [2,2,3,3,4] (by simp)
  rw [e2]
  simp only [obs0]
  obtain ⟨m,d3,e3,hd3,hm⟩:=M6 hd2 (by omega) [1,1,2] (by simp)
  rw [e3]
  simp only [obs0]
  obtain ⟨N,rfl,hN⟩ : ∃N:Nat,n=(N:Int)∧2≤N∧N≤4:=⟨n.toNat,by simp at hn;omega,by simp at hn;omega⟩
  obtain ⟨M,rfl,hM⟩ : ∃M:Nat,m=(M:Int)∧1≤M∧M≤2:=⟨m.toNat,by simp at hm;omega,by simp at hm;omega⟩
  obtain ⟨⟨a,d4⟩,e4,⟨ha1,ha2,ha3⟩,hd4⟩:=C8 (body:=Dn (N:Int)) (fun s => ∃j:Nat,s.1=(j:Int)∧j≤M∧s.2.1.Size=(N:Int)∧s.2.1.Ops.length=M-j∧(∀f∈s.2.1.Ops,1≤f.Table.length∧f.Table.length≤64)∧Cur (k+6+200*(M-j)) s.2.2) (fun s=>s.1.toNat)
   (fun t=>(t.1.Size=(N:Int)∧t.1.Ops.length=M ∧ ∀f∈t.1.Ops,1≤f.Table.length∧f.Table.length≤64)∧Cur (k+500) t.2) (fun s hs=>by
   obtain ⟨x6,x5,x1⟩:=s
   obtain ⟨j,g1,g2,g3,g4,g5,g6⟩:=hs
   simp only at g1 g2 g3 g4 g5 g6
   subst g1
   unfold Dn
   dsimp only
   by_cases hj:(j:Int)>0
   ·left
    rw [if_pos hj]
    obtain ⟨r,d5,e5,hd5,hr⟩:=M6 g6 (by omega) [0,1,2,2,3] (by simp)
    rw [e5]
    simp only [obs0]
    obtain ⟨R,rfl,hR⟩ : ∃R:Nat,r=(R:Int)∧R≤3:=⟨r.toNat,by simp at hr;omega,by simp at hr;omega⟩
    have hop : ∃f:SOp,((if (N:Int)=4 then if (R:Int)=3 then some ({ Arity:=2,Table:=Aw Int }:SOp) else some { Arity:=(R:Int),Table:=Aw Int } else some { Arity:=(R:Int),Table:=Aw Int }:Option SOp))=some f∧f.Table=[] ∧ ∃Q:Nat,f.Arity=(Q:Int)∧1≤N^Q∧N^Q≤64∧Q≤3:=by
     by_cases h4:(N:Int)=4
     ·rw [if_pos h4]
      have h4:N=4:=by omega
      subst h4
      by_cases h3:(R:Int)=3
      ·rw [if_pos h3];exact ⟨_,rfl,rfl,2,rfl,by decide⟩
      ·rw [if_neg h3]
       refine ⟨_,rfl,rfl,R,rfl,?_⟩
       have:R=0∨R=1∨R=2:=by omega
       rcases this with rfl | rfl | rfl<;>decide
     ·rw [if_neg h4]
      refine ⟨_,rfl,rfl,R,rfl,?_⟩
      have h5:N=2∨N=3:=by omega
      have:R=0∨R=1∨R=2∨R=3:=by omega
      rcases h5 with rfl | rfl<;>rcases this with rfl | rfl | rfl | rfl<;>decide
    obtain ⟨f,ef,ht,Q,hQ,q1,q2,q3⟩:=hop
    rw [ef]
    simp only [obs0]
    rw [hQ,Au9 (by omega) q3]
    simp only [obs0]
    obtain ⟨⟨f2,d6⟩,e6,hf2,hd6⟩:=C8 (body:=Dm (N:Int) (j:Int) x5) (fun s => ∃i:Nat,s.1=(i:Int)∧i≤N^Q∧s.2.1.Table.length=N^Q-i∧Cur (k+6+200*(M-j)+2+2*(N^Q-i)) s.2.2) (fun s=>s.1.toNat) (fun t=>t.1.Table.length=N^Q∧Cur (k+6+200*(M-j)+2+2*N^Q) t.2) (fun s hs=>by
     obtain ⟨x8,x7,x9⟩:=s
     obtain ⟨i,k1,k2,k3,k4⟩:=hs
     simp only at k1 k2 k3 k4
     subst k1
     unfold Dm
     dsimp only
     by_cases hi:(i:Int)>0
     ·left
      rw [if_pos hi]
      obtain ⟨v,d7,e7,hd7,_⟩:=Mw k4 (by omega) (N:Int)
      rw [e7]
      simp only [obs0]
      rw [Ae (by simp;omega),Ae (by unfold InI;omega)]
      exact ⟨_,rfl,⟨i-1,by simp only;omega,by omega,by simp;omega,hd7.mono (by omega)⟩,by simp only;omega⟩
     ·right
      rw [if_neg hi]
      exact ⟨_,rfl,by simp only;omega,k4.mono (by omega)⟩) (s:=(((N^Q:Nat):Int),f,d5)) ⟨N^Q,rfl,Nat.le_refl _,by simp [ht],hd5.mono (by omega)⟩
    rw [e6]
    simp only [obs0]
    rw [Ae (by simp;omega),Ae (by unfold InI;omega)]
    simp only at hf2 hd6
    refine ⟨_,rfl,⟨j-1,by simp only;omega,by omega,g3,by simp;omega,fun f hf=> ?_,hd6.mono (by omega)⟩,by simp only;omega⟩
    rcases List.mem_append.1 hf with h' | h'
    ·exact g5 f h'
    ·rw [List.mem_singleton.1 h'];omega
   ·right
    rw [if_neg hj]
    exact ⟨_,rfl,⟨g3,by simp only;omega,g5⟩,g6.mono (by omega)⟩) (s:=((M:Int),({ Size:=(N:Int),Ops:=Aw SOp }:SAlgebra),d3)) ⟨M,rfl,Nat.le_refl _,rfl,by simp [Aw],fun f hf=>by simp [Aw] at hf,hd3.mono (by omega)⟩
  rw [e4]
  simp only [obs0]
  simp only at ha1 ha2 ha3 hd4
  have h0:0<a.Ops.length:=by omega
  have hf0:=ha3 _ (Ak h0)
  have ht:X0 a:=⟨by omega,fun f hf=>by have:=ha3 f hf;omega⟩
  have hset : ∀ {z:Int} {f:SOp},f.Table.length≤101→X0 { Size:=z,Ops:=a.Ops.set (Int.toNat 0) f }:=fun hf=>⟨by simp;omega,fun g hg=>by
   rcases List.mem_or_eq_of_mem_set hg with h' | h'
   ·have:=ha3 g h';omega
   ·rw [h'];exact hf⟩
  obtain ⟨w,d5,e5,hd5,w0,_⟩:=Mw hd4 (by omega) 16
  rw [e5]
  simp only [obs0]
  by_cases c0:w=0
  ·rw [if_pos c0,Ae (by unfold InI;omega)]
   obtain ⟨r,d6,e6,hd6,_⟩:=M6 hd5 (by omega) [0,9,(N:Int)+1] (by simp)
   rw [e6]
   exact ⟨_,_,rfl,hd6.mono (by omega),ht⟩
  rw [if_neg c0]
  by_cases c1:w=1
  ·rw [if_pos c1,Ae (by omega),Ae (by simp only [Int.toNat_zero,List.length_singleton];omega)]
   exact ⟨_,_,rfl,hd5.mono (by omega),hset (by simp only [Int.toNat_zero,List.length_append,List.length_singleton];omega)⟩
  rw [if_neg c1]
  by_cases c2:w=2
  ·rw [if_pos c2,Ae (by omega)]
   obtain ⟨r,d6,e6,hd6,r0,r1⟩:=Mw hd5 (by omega) ((nth a.Ops (Int.toNat 0)).Table.length:Int)
   rw [e6]
   simp only [obs0]
   obtain ⟨s,d7,e7,hd7,_⟩:=M6 hd6 (by omega) [-1,(N:Int)] (by simp)
   rw [e7]
   simp only [obs0]
   simp only [Int.toNat_zero] at r1 ⊢
   rw [Ae (by omega)]
   exact ⟨_,_,rfl,hd7.mono (by omega),hset (by simp only [List.length_set];omega)⟩
  rw [if_neg c2]
  by_cases c3:w=3
  ·rw [if_pos c3]
   obtain ⟨r,d6,e6,hd6,_⟩:=M6 hd5 (by omega) [-1,4] (by simp)
   rw [e6]
   simp only [obs0]
   rw [Ae (by omega)]
   exact ⟨_,_,rfl,hd6.mono (by omega),hset (by simp only [Int.toNat_zero];omega)⟩
  rw [if_neg c3]
  by_cases c4:w=4
  ·rw [if_pos c4]
   obtain ⟨⟨a2,d6⟩,e6,ht2,hd6⟩:=C8 (body:=Dq (N:Int)) (fun s=>s.1.Ops.length≤5∧(∀f∈s.1.Ops,f.Table.length≤64)∧Cur (k+502+2*s.1.Ops.length) s.2) (fun s=>5-s.1.Ops.length) (fun t=>X0 t.1∧Cur (k+600) t.2) (fun s hs=>by
    obtain ⟨x5,x1⟩:=s
    obtain ⟨g1,g2,g3⟩:=hs
    simp only at g1 g2 g3
    unfold Dq
    dsimp only
    obtain ⟨r,d7,e7,hd7,r0,r1⟩:=Mw g3 (by omega) 2
    rw [e7]
    simp only [obs0]
    rw [Ae (by unfold InI;omega)]
    by_cases hl:(x5.Ops.length:Int)<4+r
    ·left
     rw [if_pos hl,Ae (by omega),Ae (by simp;omega)]
     refine ⟨_,rfl,⟨by simp;omega,fun f hf=> ?_,hd7.mono (by simp;omega)⟩,by simp;omega⟩
     rcases List.mem_append.1 hf with h' | h'
     ·exact g2 f h'
     ·rw [List.mem_singleton.1 h'];simp;omega
    ·right
     rw [if_neg hl]
     exact ⟨_,rfl,⟨by simp only;omega,fun f hf=>by have:=g2 f hf;omega⟩,hd7.mono (by omega)⟩) (s:=(a,d5)) ⟨by simp only;omega,fun f hf=>(ha3 f hf).2,hd5.mono (by omega)⟩
   rw [e6]
   exact ⟨_,_,rfl,hd6.mono (by omega),ht2⟩
  rw [if_neg c4]
  exact ⟨_,_,rfl,hd5.mono (by omega),ht⟩
 ·rw [if_neg hb]
  obtain ⟨r,d2,e2,hd2,_⟩:=Mw hd (by omega) 17
  rw [e2]
  simp only [obs0]
  obtain ⟨a,e3,ht⟩:=Apx r
  rw [e3]
  exact ⟨_,_,rfl,hd2.mono (by omega),ht⟩
theorem A2t {code:List Int} (hc : ∀x∈code,0≤x∧x≤255) (hl:code.length≤65536):Cur 0 ({ code:=code,at_:=0,seed:=0 }:Sl1Cur):=⟨hc,hl,Int.le_refl _,Int.le_refl _⟩
theorem Ait {code:List Int} (hc : ∀x∈code,0≤x∧x≤255) (hl:code.length≤65536) : ∃a,Ey code=some a∧X0 a:=by
 unfold Ey
 obtain ⟨a,d,e,_,ha⟩:=Aqc (A2t hc hl) (by omega)
 rw [e];exact ⟨_,rfl,ha⟩
end Go.Proofs.YtjcekpmojnnmbaaGreat.Ax
namespace Go.Proofs.YtjcekpmojnnmbaaGreat.Ax
open Go Classical
theorem K8 {body:(Int×List Int)→Option ((Int×List Int) ⊕ List Int)} (N:Nat) (Inv:Nat→List Int→Prop) (h : ∀i q,i<N→Inv i q → ∃q',body ((i:Int),q)=some (.inl (((i+1:Nat):Int),q'))∧Inv (i+1) q')
  (he : ∀q,Inv N q→body ((N:Int),q)=some (.inr q)) (q:List Int) (hq:Inv 0 q) : ∃r,Al body (0,q)=some r∧Inv N r:=by
 obtain ⟨t,e,ht⟩:=C8 (body:=body) (fun s => ∃i:Nat,s.1=(i:Int)∧i≤N∧Inv i s.2) (fun s=>N-s.1.toNat) (fun t=>Inv N t) (by
  rintro ⟨x,q⟩ ⟨i,rfl,h1,h2⟩
  dsimp only at h2
  by_cases hi:i<N
  ·obtain ⟨q',e,h3⟩:=h i q hi h2
   exact .inl ⟨_,e,⟨i+1,rfl,hi,h3⟩,by dsimp only;omega⟩
  ·have:i=N:=by omega
   subst this
   exact .inr ⟨_,he q h2,h2⟩) (s:=((0:Int),q)) ⟨0,rfl,Nat.zero_le _,hq⟩
 exact ⟨t,e,ht⟩
section
variable {a:SAlgebra} {n:Nat}
def Apd (a:SAlgebra) (n:Nat) (p:List Int) (x y:Nat):Prop := ∃o i e,o<a.Ops.length∧e<(nth a.Ops o).Arity.toNat∧i<(nth a.Ops o).Table.length∧(x:Int)=nth (nth a.Ops o).Table i∧(y:Int)=nth (nth a.Ops o).Table (Aeu n p e i).toNat
variable (Inv:List Int→Prop) (hI : ∀q,Inv q→okP n q)
include hI
theorem Awl (ga:Cf a) (hn:a.Size=n) {p:List Int} (hp:okP n p) (hm : ∀q (x y:Nat),Inv q→x<n→y<n→Apd a n p x y→Inv (mg q (nth q x) (nth q y))) (h0:Inv p) : ∃t,Ev a p=some t∧Inv t∧(t=p↔Alx a n p):=by
 have h8:=ga.2.1
 have hpl:=hp.1
 obtain ⟨t0,f1,f2,f3⟩:=A1g ga hn hp
 have key : ∃t,Ev a p=some t∧Inv t:=by
  unfold Ev
  rw [Ar0 _ (by rw [Bn];omega)]
  simp only [obs0]
  obtain ⟨t,e1,e2⟩:=K8 (body:=C4 a p) a.Ops.length (fun _=>Inv) (fun o q ho hq=>by
   obtain ⟨r,r3,hr,hT,hTi,h512,hn0,hn8⟩:=opX ga hn ho
   have h20:=ga.2.2.1
   obtain ⟨t,e1,e2⟩:=K8 (body:=Cn a p (o:Int)) (nth a.Ops o).Table.length (fun _=>Inv) (fun i q hi hq=>by
    have hal:=Hb n r i
    obtain ⟨t,e1,e2⟩:=K8 (body:=Ck a p (o:Int) (i:Int) (Dw n r i)) r (fun _=>Inv) (fun k q hk hq=>by
     have hqo:=hI q hq
     have hin:=Atc hn0 hp (i:=i) hk
     have hsw:=Zb (n:=n) p r i k (by omega) hk
     obtain ⟨c,hc,hc2⟩:=Acy hn0 hp (r:=r) (i:=i) (e:=r-1-k) (by omega) (by omega)
     have y0:=Vq hn0 r i _ (Ak (show k<(Dw n r i).length by omega))
     have y1:=hTi _ (Ak (show i<(nth a.Ops o).Table.length from hi))
     have y2:=hTi _ (Ak (show c<(nth a.Ops o).Table.length by omega))
     have hql:=hqo.1
     have hv:=Avd hn8 hn ho (xs:=(Dw n r i).set k (nth p (nth (Dw n r i) k).toNat)) (by rw [List.length_set];omega) hin (by rw [List.length_set,hal];exact hT)
     rw [hsw,hc,tna0] at hv
     have hu:=Yy (p:=q) (by omega) (X:=nth (nth a.Ops o).Table i) (Y:=nth (nth a.Ops o).Table c) (by omega) (by omega)
     unfold Ck
     dsimp only
     rw [if_pos (by omega),Ar0 _ (by rw [Bn];omega)]
     simp only [obs0,tna0]
     rw [Ae (by omega),Ae (by omega),Ae (by omega),Ae (by omega),Ae (by omega),hv]
     simp only [obs0]
     rw [hu]
     simp only [obs0]
     rw [Ae (by unfold InI;omega)]
     refine ⟨_,rfl,hm q (nth (nth a.Ops o).Table i).toNat (nth (nth a.Ops o).Table c).toNat hq (by omega) (by omega) ⟨o,i,r-1-k,ho,by omega,hi,by omega,?_⟩⟩
     rw [hc,tna0];omega) (fun q _=>by
     unfold Ck
     dsimp only
     rw [if_neg (by omega)]) q hq
    refine ⟨t,?_,e2⟩
    unfold Cn
    dsimp only
    rw [Ae (by omega),tna0,if_pos (by omega),Ae (by omega),hn,hr,Ara hn0 hn8 r3 (by omega)]
    simp only [obs0]
    rw [e1]
    simp only [obs0]
    rw [Ae (by unfold InI;omega)]
    rfl) (fun q _=>by
    unfold Cn
    dsimp only
    rw [Ae (by omega),tna0,if_neg (by omega)]) q hq
   refine ⟨t,?_,e2⟩
   unfold C4
   dsimp only
   rw [if_pos (by omega),e1]
   simp only [obs0]
   rw [Ae (by unfold InI;omega)]
   rfl) (fun q _=>by
   unfold C4
   dsimp only
   rw [if_neg (by omega)]) p h0
  rw [e1]
  exact ⟨t,rfl,e2⟩
 obtain ⟨t,e,ht⟩:=key
 rw [f1] at e
 cases e
 exact ⟨t0,f1,ht,f3⟩
end
section
variable {a:SAlgebra} {n:Nat}
theorem Ac4 (n:Nat):okP n (Ce n):=by
 refine ⟨by simp [Ce],fun z hz=> ?_⟩
 unfold Ce at hz
 simp only [List.mem_map,List.mem_range] at hz
 obtain ⟨i,hi,rfl⟩:=hz
 omega
end
end Go.Proofs.YtjcekpmojnnmbaaGreat.Ax
namespace Go.Proofs.YtjcekpmojnnmbaaGreat.Ax
open Go Classical
noncomputable def Wm (n:Nat) (q:Nat→Bool):Nat:=(Ct n q).length
theorem Y0 (n:Nat) (q:Nat→Bool):Wm (n+1) q=Wm n q+if q n=true then 1 else 0:=by
 unfold Wm;rw [Re]
 by_cases h:q n=true
 ·rw [if_pos h,if_pos h];simp
 ·rw [if_neg h,if_neg h];rfl
theorem Aw2 {n:Nat} {q r:Nat→Bool} (h : ∀i,i<n→q i=true→r i=true):Wm n q≤Wm n r:=by
 induction n with
 | zero=>exact Nat.le_refl _
 | succ n ih=>
   have:=ih fun i hi=>h i (by omega)
   rw [Y0,Y0]
   by_cases hq:q n=true
   ·rw [if_pos hq,if_pos (h n (by omega) hq)];omega
   ·rw [if_neg hq];split<;>omega
theorem Az5 {n:Nat} {q r:Nat→Bool} (h : ∀i,i<n→q i=true→r i=true) {k:Nat} (hk:k<n) (h1:q k=false) (h2:r k=true):Wm n q<Wm n r:=by
 induction n with
 | zero=>omega
 | succ n ih=>
   rw [Y0,Y0]
   by_cases hkn:k=n
   ·subst hkn
    have:=Aw2 (n:=k) (q:=q) (r:=r) fun i hi=>h i (by omega)
    rw [if_neg (by simp [h1]),if_pos h2];omega
   ·have:=ih (fun i hi=>h i (by omega)) (by omega)
    by_cases hq:q n=true
    ·rw [if_pos hq,if_pos (h n (by omega) hq)];omega
    ·rw [if_neg hq];split<;>omega
section
variable {n:Nat} {f:Nat→Nat→Bool}
end
section
variable {n m:Nat} {f g:Nat→Nat→Bool}
end
end Go.Proofs.YtjcekpmojnnmbaaGreat.Ax
namespace Go.Proofs.YtjcekpmojnnmbaaGreat.Ax
open Go Classical
def Bs (n:Nat) (p q:List Int):Prop := ∀x,x<n→nth q (nth p x).toNat=nth q x
section
variable {n:Nat} {p q r:List Int}
theorem Xu (hp:Bz n p):Bs n p q ↔ ∀x y,x<n→y<n→nth p x=nth p y→nth q x=nth q y:=by
 constructor
 ·intro h x y hx hy e
  rw [←h x hx,←h y hy,e]
 ·intro h x hx
  obtain ⟨h0,h1,h2⟩:=hp.2 x hx
  exact h _ _ (by omega) hx h2
theorem Bs.rel (h:Bs n p q) {x y:Nat} (hx:x<n) (hy:y<n) (e:nth p x=nth p y):nth q x=nth q y:=by
 rw [←h x hx,←h y hy,e]
theorem Nf (hp:Bz n p):Bs n p p:=fun x hx=>(hp.2 x hx).2.2
theorem Bs.trans (hp:Bz n p) (h:Bs n p q) (h':Bs n q r):Bs n p r:=
 (Xu hp).2 fun _ _ hx hy e=>h'.rel hx hy (h.rel hx hy e)
theorem Ah0 (hp:Bz n p) (hq:Bz n q) (h:Bs n p q) {x:Nat} (hx:x<n):nth q x≤nth p x:=by
 obtain ⟨h0,h1,h2⟩:=hp.2 x hx
 have e:=h x hx
 have:=(hq.2 (nth p x).toNat (by omega)).2.1
 omega
theorem Mt (hp:Bz n p) (hq:Bz n q) (h:Bs n p q) (h':Bs n q p):p=q:=by
 have e1:=hp.1
 have e2:=hq.1
 refine Lm (by omega) fun x hx=> ?_
 have hx:x<n:=by omega
 exact Int.le_antisymm (Ah0 hq hp h' hx) (Ah0 hp hq h hx)
theorem Ain (u w z y:Int):mgF u w z=mgF u w y↔z=y∨((z=u∨z=w)∧(y=u∨y=w)):=by
 rcases Int.lt_trichotomy u w with h | h | h
 ·rw [Of h,Of h]
  constructor
  ·intro e
   split at e<;>split at e<;>omega
  ·intro e
   split<;>split<;>omega
 ·subst h
  rw [Aba,Aba]
  omega
 ·rw [Oe h,Oe h]
  constructor
  ·intro e
   split at e<;>split at e<;>omega
  ·intro e
   split<;>split<;>omega
theorem Yl (u w:Int) {i:Nat} (hi:i<p.length):nth (mg p u w) i=mgF u w (nth p i):=by
 unfold mg;rw [Ki _ hi]
theorem Vp {x y:Nat} (hp:Bz n p) (_hx:x<n) (_hy:y<n):Bs n p (mg p (nth p x) (nth p y)):=by
 have hl:=hp.1
 refine (Xu hp).2 fun i j hi hj e=> ?_
 rw [Yl _ _ (by omega),Yl _ _ (by omega),e]
section
variable {x y:Nat} (hp:Bz n p) (hx:x<n) (hy:y<n)
include hp hx hy
theorem Pz:Bz n (mg p (nth p x) (nth p y)):=by
 have hl:=hp.1
 refine ⟨by rw [Ati];exact hl,fun i hi=> ?_⟩
 obtain ⟨a0,a1,a2⟩:=hp.2 i hi
 obtain ⟨b0,b1,b2⟩:=hp.2 x hx
 obtain ⟨c0,c1,c2⟩:=hp.2 y hy
 rw [Yl _ _ (by omega)]
 have key : ∀v:Int,0≤v→v≤i→nth p v.toNat=v→mgF (nth p x) (nth p y) v=v→v=mgF (nth p x) (nth p y) (nth p i)→0≤mgF (nth p x) (nth p y) (nth p i)∧mgF (nth p x) (nth p y) (nth p i)≤i∧nth (mg p (nth p x) (nth p y)) (mgF (nth p x) (nth p y) (nth p i)).toNat=mgF (nth p x) (nth p y) (nth p i):=by
  intro v h0 h1 h2 h3 h4
  rw [←h4]
  refine ⟨h0,h1,?_⟩
  rw [Yl _ _ (by omega),h2,h3]
 rcases Int.lt_trichotomy (nth p x) (nth p y) with h | h | h
 ·by_cases hc:nth p i=nth p y
  ·refine key (nth p x) b0 (by omega) b2 ?_ ?_
   ·rw [Of h,if_neg (by omega)]
   ·rw [Of h,if_pos hc]
  ·refine key (nth p i) a0 a1 a2 ?_ ?_
   ·rw [Of h,if_neg hc]
   ·rw [Of h,if_neg hc]
 ·refine key (nth p i) a0 a1 a2 ?_ ?_
  ·rw [h,Aba]
  ·rw [h,Aba]
 ·by_cases hc:nth p i=nth p x
  ·refine key (nth p y) c0 (by omega) c2 ?_ ?_
   ·rw [Oe h,if_neg (by omega)]
   ·rw [Oe h,if_pos hc]
  ·refine key (nth p i) a0 a1 a2 ?_ ?_
   ·rw [Oe h,if_neg hc]
   ·rw [Oe h,if_neg hc]
theorem Yz:nth (mg p (nth p x) (nth p y)) x=nth (mg p (nth p x) (nth p y)) y:=by
 have hl:=hp.1
 rw [Yl _ _ (by omega),Yl _ _ (by omega),Ain]
 exact .inr ⟨.inl rfl,.inr rfl⟩
theorem Qh (h:Bs n p r) (e:nth r x=nth r y):Bs n (mg p (nth p x) (nth p y)) r:=by
 have hl:=hp.1
 refine (Xu (Pz hp hx hy)).2 fun i j hi hj e2=> ?_
 rw [Yl _ _ (by omega),Yl _ _ (by omega),Ain] at e2
 rcases e2 with e2 | ⟨h1,h2⟩
 ·exact h.rel hi hj e2
 ·have k1:nth r i=nth r x:=by
   rcases h1 with h1 | h1
   ·exact h.rel hi hx h1
   ·rw [h.rel hi hy h1,e]
  have k2:nth r j=nth r x:=by
   rcases h2 with h2 | h2
   ·exact h.rel hj hx h2
   ·rw [h.rel hj hy h2,e]
  rw [k1,k2]
end
noncomputable def Vf (n:Nat) (p:List Int):Nat:=Wm n fun i=>decide (nth p i=(i:Int))
theorem A4d (hp:Bz n p) (hq:Bz n q) (h:Bs n p q) {i:Nat} (hi:i<n) (e:nth q i=(i:Int)):nth p i=(i:Int):=by
 have:=Ah0 hp hq h hi
 have:=(hp.2 i hi).2.1
 omega
theorem Yq (hp:Bz n p) (hq:Bz n q) (h:Bs n p q) (hne:p≠q):Vf n q<Vf n p:=by
 have e1:=hp.1
 have e2:=hq.1
 have : ∃x,x<n∧nth q x<nth p x:=Classical.byContradiction fun hc=>hne (Lm (by omega) fun x hx=>by
  have hx:x<n:=by omega
  have h1:=Ah0 hp hq h hx
  have h2:¬nth q x<nth p x:=fun hh=>hc ⟨x,hx,hh⟩
  omega)
 obtain ⟨x,hx,hlt⟩:=this
 obtain ⟨a0,a1,a2⟩:=hp.2 x hx
 refine Az5 (fun i hi e=> ?_) (k:=(nth p x).toNat) (by omega) ?_ ?_
 ·exact dtr0 (A4d hp hq h hi (of_decide_eq_true e))
 ·refine dfa0 fun e=> ?_
  rw [h x hx] at e;omega
 ·refine dtr0 ?_
  rw [a2];omega
theorem Azx (n:Nat) (p:List Int):Vf n p≤n:=by
 unfold Vf Wm Ct
 exact Nat.le_trans (by simpa using List.length_filter_le _ (List.range n)) (Nat.le_of_eq (by simp))
theorem N3 {i:Nat} (hi:i<n):nth (Ce n) i=(i:Int):=by
 unfold Ce
 rw [Ki _ (by simpa using hi),Aev hi]
theorem E5 (n:Nat):Bz n (Ce n):=⟨(Ac4 n).1,fun i hi=>by
 rw [N3 hi,tna0,N3 hi]
 exact ⟨by omega,Int.le_refl _,rfl⟩⟩
theorem Gs (p:List Int):Bs n (Ce n) p:=fun x hx=>by rw [N3 hx,tna0]
end
section
variable {a:SAlgebra} {n:Nat} {p q r s:List Int}
theorem Auk (ga:Cf a) (hn:a.Size=n) (hp:Bz n p) (hs:Gq a n s) (h:Bs n p s) {x y:Nat} (hpu:Apd a n p x y):nth s x=nth s y:=by
 obtain ⟨o,i,e,ho,he,hi,ex,ey⟩:=hpu
 have h1:=ga.1
 have h8:=ga.2.1
 obtain ⟨hq,_⟩:=Atz ga hn ho
 have hc:=(Ane (by omega) (by omega) hs.1 hq).1 fun e he i hi=>hs.2 o ho e he i hi
 have hl:=hq.len
 rw [hl] at hi
 have hxin : ∀j,j<(nth a.Ops o).Arity.toNat→0≤nth (Dw n (nth a.Ops o).Arity.toNat i) j∧nth (Dw n (nth a.Ops o).Arity.toNat i) j<n:=fun j hj=>Vq (by omega) _ i _ (Ak (by rw [Hb];exact hj))
 have e0:hT n (nth a.Ops o).Arity.toNat (fun j=>nth (Dw n (nth a.Ops o).Arity.toNat i) j)=(i:Int):=by
  unfold hT
  rw [Vz (Hb n _ i),Abd (by omega) _ i hi]
 have hsw:=Ahy (m:=(nth a.Ops o).Arity.toNat-1-e) (by omega) hp hxin (by omega) e0 hi
 rw [show (nth a.Ops o).Arity.toNat-1-((nth a.Ops o).Arity.toNat-1-e)=e by omega] at hsw
 have:=hc (fun j=>nth (Dw n (nth a.Ops o).Arity.toNat i) j) (fun j=>if j=(nth a.Ops o).Arity.toNat-1-e then nth p (nth (Dw n (nth a.Ops o).Arity.toNat i) ((nth a.Ops o).Arity.toNat-1-e)).toNat else nth (Dw n (nth a.Ops o).Arity.toNat i) j) hxin (fun j hj=>by
  split
  ·have:=Acm hp (hxin ((nth a.Ops o).Arity.toNat-1-e) (by omega));omega
  ·exact hxin j hj) (fun j hj=>by
  split
  ·rename_i hje
   subst hje
   have:=hxin _ hj
   exact (h _ (by omega)).symm
  ·rfl)
 rw [e0,hsw,tna0,←ex,←ey,tna0,tna0] at this
 exact this
def Xy (a:SAlgebra) (n:Nat) (p r:List Int):Prop:=Gq a n r∧Bs n p r ∧ ∀s,Gq a n s→Bs n p s→Bs n r s
theorem Aga {r r':List Int} (h:Xy a n p r) (h':Xy a n p r'):r=r':=
 Mt h.1.1 h'.1.1 (h.2.2 r' h'.1 h'.2.1) (h'.2.2 r h.1 h.2.1)
def Rr (a:SAlgebra) (n:Nat) (p q:List Int):Prop:=Bz n q∧Bs n p q ∧ ∀s,Gq a n s→Bs n p s→Bs n q s
theorem Rr.ok (h:Rr a n p q):okP n q:=⟨h.1.1,h.1.inS⟩
theorem Ank (hp:Bz n p):Rr a n p p:=⟨hp,Nf hp,fun _ _ h=>h⟩
theorem A3o (hp:Bz n p) (h:Rr a n p q) {x y:Nat} (hx:x<n) (hy:y<n) (e : ∀s,Gq a n s→Bs n p s→nth s x=nth s y):Rr a n p (mg q (nth q x) (nth q y)):=
 ⟨Pz h.1 hx hy,h.2.1.trans hp (Vp h.1 hx hy),fun s hs hf=>Qh h.1 hx hy (h.2.2 s hs hf) (e s hs hf)⟩
theorem Am5 (ga:Cf a) (hn:a.Size=n) (hp:Bz n p) (h':Rr a n p r) (h:Rr a n p q) {x y:Nat} (hx:x<n) (hy:y<n) (hpu:Apd a n r x y):Rr a n p (mg q (nth q x) (nth q y)):=
 A3o hp h hx hy fun s hs hf=>Auk ga hn h'.1 hs (h'.2.2 s hs hf) hpu
theorem Ajg (ga:Cf a) (hn:a.Size=n) (hp:Bz n p) : ∃r,Ix a p=some r∧Xy a n p r:=by
 have h8:=ga.2.1
 have h1:=ga.1
 unfold Ix
 have push : ∀q,Rr a n p q → ∃t,Ev a q=some t∧Rr a n p t∧Bs n q t∧(t=q↔Alx a n q):=by
  intro q hq
  obtain ⟨t,e,⟨ht,hf⟩,hk⟩:=Awl (fun t=>Rr a n p t∧Bs n q t) (fun t ht=>ht.1.ok) ga hn hq.ok (fun t x y ht hx hy hpu=>⟨Am5 ga hn hp hq ht.1 hx hy hpu,ht.2.trans hq.1 (Vp ht.1.1 hx hy)⟩) ⟨hq,Nf hq.1⟩
  exact ⟨t,e,ht,hf,hk⟩
 obtain ⟨t,e1,e2⟩:=K8 (body:=E3 a) n (fun i q=>Rr a n p q∧(Alx a n q∨Vf n q+i≤n)) (fun i q hi hq=>by
  obtain ⟨t,e,ht,hf,hk⟩:=push q hq.1
  unfold E3
  dsimp only
  rw [if_pos (by omega),e]
  simp only [obs0]
  rw [Ae (by unfold InI;omega)]
  refine ⟨t,rfl,ht,?_⟩
  by_cases hkq:Alx a n q
  ·rw [hk.2 hkq];exact .inl hkq
  ·have hne:q≠t:=fun hh=>hkq (hk.1 hh.symm)
   have:=Yq hq.1.1 ht.1 hf hne
   rcases hq.2 with h | h
   ·exact absurd h hkq
   ·exact .inr (by omega)) (fun q _=>by
  unfold E3
  dsimp only
  rw [if_neg (by omega)]) p ⟨Ank hp,.inr (by have:=Azx n p;omega)⟩
 rw [e1]
 refine ⟨t,rfl,?_⟩
 obtain ⟨⟨m1,m2,m3⟩,hk⟩:=e2
 have hk:Alx a n t:=by
  rcases hk with h | h
  ·exact h
  ·exfalso
   have h0:nth t 0=((0:Nat):Int):=by have:=(m1.2 0 (by omega));omega
   have:0<Vf n t:=by
    unfold Vf Wm
    refine List.length_pos_of_mem (a:=((0:Nat):Int)) ?_
    unfold Ct
    simp only [List.mem_map,List.mem_filter,List.mem_range,decide_eq_true_eq]
    exact ⟨0,⟨by omega,h0⟩,rfl⟩
   omega
 exact ⟨⟨m1,hk⟩,m2,m3⟩
end
end Go.Proofs.YtjcekpmojnnmbaaGreat.Ax
namespace Go.Proofs.YtjcekpmojnnmbaaGreat.Ax
open Go Classical
theorem Arn (E:Nat→Nat→Prop) (x:Nat) : ∃k,k≤x∧(x=k∨E x k) ∧ ∀j,j<k→¬(x=j∨E x j):=Aw1 (fun y=>x=y∨E x y) x (.inl rfl)
noncomputable def Kt (E:Nat→Nat→Prop) (x:Nat):Nat:=Classical.choose (Arn E x)
theorem Xr (E:Nat→Nat→Prop) (x:Nat):Kt E x≤x∧(x=Kt E x∨E x (Kt E x)) ∧ ∀j,j<Kt E x→¬(x=j∨E x j):=Classical.choose_spec (Arn E x)
noncomputable def Ajc (n:Nat) (E:Nat→Nat→Prop):List Int:=(List.range n).map fun x=>(Kt E x:Int)
structure EqvN (n:Nat) (E:Nat→Nat→Prop):Prop where
 rfl' : ∀x,x<n→E x x
 sym : ∀x y,x<n→y<n→E x y→E y x
 tr : ∀x y z,x<n→y<n→z<n→E x y→E y z→E x z
section
variable {n:Nat} {E:Nat→Nat→Prop}
theorem Zd {x:Nat} (hx:x<n):nth (Ajc n E) x=(Kt E x:Int):=by
 unfold Ajc
 rw [Ki _ (by simpa using hx),Aev hx]
theorem V6 (h:EqvN n E) {x:Nat} (hx:x<n):Kt E x<n∧E x (Kt E x):=by
 obtain ⟨a,b,_⟩:=Xr E x
 refine ⟨by omega,?_⟩
 rcases b with b | b
 ·rw [←b];exact h.rfl' x hx
 ·exact b
theorem Anr (h:EqvN n E) {x y:Nat} (hx:x<n) (hy:y<n) (e:E x y):Kt E x=Kt E y:=by
 have key : ∀x y,x<n→y<n→E x y→Kt E x≤Kt E y:=fun x y hx hy e=>by
  obtain ⟨hyn,hyr⟩:=V6 h hy
  have:=(Xr E x).2.2 (Kt E y)
  refine Nat.le_of_not_lt fun hh=>this hh (.inr (h.tr x y _ hx hy hyn e hyr))
 exact Nat.le_antisymm (key x y hx hy e) (key y x hy hx (h.sym x y hx hy e))
theorem Amr (h:EqvN n E) {x y:Nat} (hx:x<n) (hy:y<n):nth (Ajc n E) x=nth (Ajc n E) y↔E x y:=by
 rw [Zd hx,Zd hy]
 constructor
 ·intro e
  have e:Kt E x=Kt E y:=by omega
  obtain ⟨a1,a2⟩:=V6 h hx
  obtain ⟨b1,b2⟩:=V6 h hy
  rw [←e] at b2
  exact h.tr x _ y hx a1 hy a2 (h.sym y _ hy a1 b2)
 ·intro e
  rw [Anr h hx hy e]
theorem Azk (h:EqvN n E):Bz n (Ajc n E):=by
 refine ⟨by simp [Ajc],fun x hx=> ?_⟩
 obtain ⟨a1,a2⟩:=V6 h hx
 have:=(Xr E x).1
 rw [Zd hx,tna0,Zd a1,Anr h a1 hx (h.sym x _ hx a1 a2)]
 exact ⟨by omega,by omega,rfl⟩
end
def Iz (n:Nat) (p q r:List Int):Prop:=Bz n r∧Bs n p r∧Bs n q r ∧ ∀s,Bz n s→Bs n p s→Bs n q s→Bs n r s
section
variable {a:SAlgebra} {n:Nat} {p q r:List Int}
theorem Iz.uniq {r':List Int} (h:Iz n p q r) (h':Iz n p q r'):r=r':=
 Mt h.1 h'.1 (h.2.2.2 r' h'.1 h'.2.1 h'.2.2.1) (h'.2.2.2 r h.1 h.2.1 h.2.2.1)
theorem Gq.cg (ga:Cf a) (hn:a.Size=n) (hp:Gq a n p) {o:Nat} (ho:o<a.Ops.length):A0z p n (nth a.Ops o).Arity.toNat (nth a.Ops o):=by
 have h1:=ga.1
 have h8:=ga.2.1
 obtain ⟨hq,_⟩:=Atz ga hn ho
 exact (Ane (by omega) (by omega) hp.1 hq).1 fun e he i hi=>hp.2 o ho e he i hi
theorem Amq (ga:Cf a) (hn:a.Size=n) (hp:Gq a n p) (hq:Gq a n q) (hj:Iz n p q r):Gq a n r:=by
 refine ⟨hj.1,fun o ho e he i hi=> ?_⟩
 have h1:=ga.1
 have h8:=ga.2.1
 obtain ⟨hqq,_⟩:=Atz ga hn ho
 have hl:=hqq.len
 have hcp:=hp.cg ga hn ho
 have hcq:=hq.cg ga hn ho
 generalize hR:(nth a.Ops o).Arity.toNat=R at *
 rw [hl] at hi
 obtain ⟨m,hm⟩ : ∃m,m=R-1-e:=⟨_,rfl⟩
 have hxin : ∀j,j<R→0≤nth (Dw n R i) j∧nth (Dw n R i) j<n:=fun j hj=>Vq (by omega) _ i _ (Ak (by rw [Hb];exact hj))
 have e0:hT n R (fun j=>nth (Dw n R i) j)=(i:Int):=by
  unfold hT
  rw [Vz (Hb n _ i),Abd (by omega) _ i hi]
 have hsw:=Ahy (m:=m) (by omega) hj.1 hxin (by omega) e0 hi
 rw [hm,show R-1-(R-1-e)=e by omega,←hm] at hsw
 have inU : ∀u:Nat,u<n → ∀j,j<R→0≤(if j=m then (u:Int) else nth (Dw n R i) j)∧(if j=m then (u:Int) else nth (Dw n R i) j)<n:=fun u hu j hj=>by
  split
  ·omega
  ·exact hxin j hj
 obtain ⟨V,hV⟩ : ∃V:Nat→Int,∀u,V u=nth (nth a.Ops o).Table (hT n R fun j=>if j=m then (u:Int) else nth (Dw n R i) j).toNat:=⟨_,fun _=>rfl⟩
 have hVin : ∀u,u<n→0≤V u∧V u<n:=fun u hu=>by rw [hV];exact (hqq.at (by omega) (inU u hu)).2
 have hE:EqvN n fun u v=>nth r (V u).toNat=nth r (V v).toNat:=⟨fun _ _=>rfl,fun _ _ _ _ h=>h.symm,fun _ _ _ _ _ _ h h'=>h.trans h'⟩
 have sub : ∀w,Bz n w→A0z w n R (nth a.Ops o)→Bs n w r→Bs n w (Ajc n fun u v=>nth r (V u).toNat=nth r (V v).toNat):=by
  intro w hw hc hf
  refine (Xu hw).2 fun u v hu hv huv=>(Amr hE hu hv).2 ?_
  have h2:=hc _ _ (inU u hu) (inU v hv) fun j hj=>by
   split
   ·rw [tna0,tna0];exact huv
   ·rfl
  rw [←hV,←hV] at h2
  have a1:=hVin u hu
  have a2:=hVin v hv
  exact hf.rel (by omega) (by omega) h2
 have hfin:=hj.2.2.2 _ (Azk hE) (sub p hp.1 hcp hj.2.1) (sub q hq.1 hcq hj.2.2.1)
 have hxm:=hxin m (by omega)
 have hxr:=Acm hj.1 hxm
 have:=hfin (nth (Dw n R i) m).toNat (by omega)
 rw [Amr hE (by omega) (by omega)] at this
 have c1:V (nth (Dw n R i) m).toNat=nth (nth a.Ops o).Table i:=by
  rw [hV,Xs (z:=fun j=>nth (Dw n R i) j) fun j hj=>by
   split
   ·rename_i h;rw [h];omega
   ·rfl]
  rw [e0,tna0]
 have c2:V (nth r (nth (Dw n R i) m).toNat).toNat=nth (nth a.Ops o).Table (Aeu n r e i).toNat:=by
  rw [hV,←hsw]
  congr 2
  refine Xs fun j hj=> ?_
  split
  ·omega
  ·rfl
 rw [c1,c2] at this
 exact this.symm
theorem T8 (ga:Cf a) (hn:a.Size=n):Gq a n (Ce n):=by
 refine ⟨E5 n,fun o ho e he i hi=> ?_⟩
 have h1:=ga.1
 have:Aeu n (Ce n) e i=(i:Int):=by
  unfold Aeu
  rw [N3 (Nat.mod_lt _ (by omega))]
  simp
 unfold Zw
 rw [this,tna0]
theorem Apu (ga:Cf a) (hn:a.Size=n) (hp:Bz n p) : ∃r,Xy a n p r:=by
 obtain ⟨r,_,h⟩:=Ajg ga hn hp
 exact ⟨r,h⟩
def Df (a:SAlgebra) (n x y:Nat) (c:List Int):Prop:=Xy a n (mg (Ce n) (x:Int) (y:Int)) c
theorem Y1 {x y:Nat} (hx:x<n) (hy:y<n):mg (Ce n) (nth (Ce n) x) (nth (Ce n) y)=mg (Ce n) (x:Int) (y:Int):=by rw [N3 hx,N3 hy]
theorem Df.rel {x y:Nat} (hx:x<n) (hy:y<n) {c:List Int} (h:Df a n x y c):nth c x=nth c y:=by
 have h1:=Yz (E5 n) hx hy
 have h2:=Pz (E5 n) hx hy
 rw [Y1 hx hy] at h1 h2
 exact h.2.1.rel hx hy h1
theorem Df.le {x y:Nat} (hx:x<n) (hy:y<n) {c s:List Int} (h:Df a n x y c) (hs:Gq a n s) (e:nth s x=nth s y):Bs n c s:=by
 refine h.2.2 s hs ?_
 rw [←Y1 hx hy]
 exact Qh (E5 n) hx hy (Gs s) e
theorem A2b (p:List Int) (u v:Int):mg p u v=mg p v u:=by
 unfold mg
 congr 1
 funext z
 rcases Int.lt_trichotomy u v with h | h | h
 ·rw [Of h,Oe h]
 ·rw [h]
 ·rw [Oe h,Of h]
theorem Df.symm {x y:Nat} {c:List Int} (h:Df a n x y c):Df a n y x c:=by
 unfold Df at h ⊢
 rw [A2b];exact h
theorem Asd (hp:Bz n p) (hq:Bz n q) : ∃r,Iz n p q r:=by
 have key : ∀k,k≤n → ∃w,Bz n w∧Bs n p w∧(∀x,x<k→nth w (nth q x).toNat=nth w x) ∧ ∀s,Bz n s→Bs n p s→Bs n q s→Bs n w s:=by
  intro k
  induction k with
  | zero=>intro _;exact ⟨p,hp,Nf hp,fun x hx=>by omega,fun s _ h _=>h⟩
  | succ k ih=>
    intro hk
    obtain ⟨w,w1,w2,w3,w4⟩:=ih (by omega)
    have hqk:=hq.2 k (by omega)
    have hqn:(nth q k).toNat<n:=by omega
    refine ⟨mg w (nth w k) (nth w (nth q k).toNat),Pz w1 (by omega) hqn,w2.trans hp (Vp w1 (by omega) hqn),fun x hx=> ?_,fun s hs h1 h2=>Qh w1 (by omega) hqn (w4 s hs h1 h2) (h2 k (by omega)).symm⟩
    rcases Nat.lt_or_ge x k with h | h
    ·have hqx:=hq.2 x (by omega)
     exact (Vp w1 (by omega) hqn).rel (by omega) (by omega) (w3 x h)
    ·have:x=k:=by omega
     subst this
     exact (Yz w1 (by omega) hqn).symm
 obtain ⟨w,w1,w2,w3,w4⟩:=key n (Nat.le_refl _)
 exact ⟨w,w1,w2,w3,w4⟩
def A18 (a:SAlgebra) (n:Nat) (L:List (List Int)):Prop := ∀m∈L,∀x y,x<n→y<x → ∀c j,Df a n x y c→Iz n m c j→j∈L
theorem Aim (ga:Cf a) (hn:a.Size=n) {L:List (List Int)} (h1 : ∀r∈L,Gq a n r) (h0:Ce n∈L) (hcl:A18 a n L) {t:List Int} (ht:Gq a n t):t∈L:=by
 have key : ∀k,∀m∈L,Bs n m t→Vf n m≤k→t∈L:=by
  intro k
  induction k with
  | zero=>
    intro m hm hf hk
    by_cases e:m=t
    ·rw [←e];exact hm
    ·have:=Yq (h1 m hm).1 ht.1 hf e
     omega
  | succ k ih=>
    intro m hm hf hk
    by_cases e:m=t
    ·rw [←e];exact hm
    ·have : ∃x y,x<n∧y<x∧nth t x=nth t y∧nth m x≠nth m y:=Classical.byContradiction fun hc=>e (Mt (h1 m hm).1 ht.1 hf ((Xu ht.1).2 fun x y hx hy exy=>by
      rcases Nat.lt_trichotomy x y with h | h | h
      ·exact Classical.byContradiction fun hh=>hc ⟨y,x,hy,h,exy.symm,fun h2=>hh h2.symm⟩
      ·rw [h]
      ·exact Classical.byContradiction fun hh=>hc ⟨x,y,hx,h,exy,hh⟩))
     obtain ⟨x,y,hx,hyx,et,em⟩:=this
     obtain ⟨c,hc⟩:=Apu (a:=a) ga hn (p:=mg (Ce n) (x:Int) (y:Int)) (by rw [←Y1 hx (show y<n by omega)];exact Pz (E5 n) hx (by omega))
     obtain ⟨j,hj⟩:=Asd (h1 m hm).1 hc.1.1
     have hct:=Df.le hx (by omega) hc ht et
     have hjt:=hj.2.2.2 t ht.1 hf hct
     have hne:m≠j:=fun hh=>em (by
      rw [hh]
      exact hj.2.2.1.rel hx (by omega) (Df.rel hx (by omega) hc))
     have:=Yq (h1 m hm).1 hj.1 hj.2.1 hne
     exact ih j (hcl m hm x y hx hyx c j hc hj) hjt (by omega)
 exact key _ _ h0 (Gs t) (Nat.le_refl _)
end
noncomputable def blk (p:List Int):Nat:=(Ct p.length fun i=>decide (nth p i=(i:Int))).length
theorem Avq {n:Nat} {p:List Int} (h:p.length=n):blk p=Vf n p:=by subst h;rfl
theorem Az6 (p:List Int):blk p≤p.length:=by
 unfold blk Ct
 exact Nat.le_trans (by simpa using List.length_filter_le _ (List.range p.length)) (Nat.le_of_eq (by simp))
theorem Za : ∀ {L M:List (List Int)},L.Nodup→(∀r∈L,r∈M)→L.length≤M.length
 | [],_,_,_=>Nat.zero_le _
 | x::L,M,h,hs=>by
   obtain ⟨h1,h2⟩:=List.nodup_cons.1 h
   have hx:=hs x (by simp)
   have:=Za (L:=L) (M:=M.erase x) h2 fun r hr=>by
    have hne:r≠x:=fun hh=>h1 (hh▸hr)
    exact (List.mem_erase_of_ne hne).2 (hs r (by simp [hr]))
   rw [List.length_erase_of_mem hx] at this
   have:=List.length_pos_of_mem hx
   simp only [List.length_cons];omega
theorem Awg (R:List Int→List Int→Prop) (hR : ∀x y,R x y→R y x→False) : ∀ {xs ys:List (List Int)},xs.Pairwise R→ys.Pairwise R→(∀z,z∈xs↔z∈ys)→xs=ys
 | [],[],_,_,_=>rfl
 | [],y::_,_,_,h=>absurd ((h y).2 (by simp)) (by simp)
 | x::_,[],_,_,h=>absurd ((h x).1 (by simp)) (by simp)
 | x::xs,y::ys,hx,hy,h=>by
   rw [List.pairwise_cons] at hx hy
   have e:x=y:=by
    rcases List.mem_cons.1 ((h x).1 (by simp)) with h1 | h1
    ·exact h1
    ·rcases List.mem_cons.1 ((h y).2 (by simp)) with h2 | h2
     ·exact h2.symm
     ·exact absurd (hy.1 x h1) fun hh=>hR _ _ (hx.1 y h2) hh
   subst e
   congr 1
   have irr : ∀z,¬R z z:=fun z hz=>hR z z hz hz
   refine Awg R hR hx.2 hy.2 fun z=> ?_
   have hz:=h z
   simp only [List.mem_cons] at hz
   constructor
   ·intro hm
    rcases hz.1 (.inr hm) with h1 | h1
    ·exact absurd (hx.1 z hm) (h1▸irr z)
    ·exact h1
   ·intro hm
    rcases hz.2 (.inr hm) with h1 | h1
    ·exact absurd (hy.1 z hm) (h1▸irr z)
    ·exact h1
end Go.Proofs.YtjcekpmojnnmbaaGreat.Ax
namespace Go.Proofs.YtjcekpmojnnmbaaGreat.Ax
open Go Classical
def bLt (p q:List Int):Prop:=blk q<blk p∨(blk p=blk q∧Ns p q)
section
variable {n:Nat}
theorem Aq0 (a:List Int):¬Ns a a:=fun ⟨i,_,_,h⟩=>by omega
theorem Aii {a b c:List Int} (hab:a.length=b.length) (h1:Ns a b) (h2:Ns b c):Ns a c:=by
 obtain ⟨i,hi,e1,l1⟩:=h1
 obtain ⟨k,hk,e2,l2⟩:=h2
 rcases Nat.lt_trichotomy i k with h | h | h
 ·exact ⟨i,hi,fun j hj=>(e1 j hj).trans (e2 j (by omega)),by rw [←e2 i h];exact l1⟩
 ·subst h;exact ⟨i,hi,fun j hj=>(e1 j hj).trans (e2 j hj),by omega⟩
 ·exact ⟨k,by omega,fun j hj=>(e1 j (by omega)).trans (e2 j hj),by rw [e1 k h];exact l2⟩
theorem Azb {a b:List Int} (hab:a.length=b.length):Ns a b∨a=b∨Ns b a:=by
 by_cases h : ∃i,i<a.length∧nth a i≠nth b i
 ·obtain ⟨i,⟨hi,hne⟩,hmin⟩ : ∃i,(i<a.length∧nth a i≠nth b i) ∧ ∀j,j<i→¬(j<a.length∧nth a j≠nth b j):=by
   obtain ⟨k,hk⟩:=h
   induction k using Nat.strongRecOn with
   | ind k ih=>
     by_cases hx : ∃j,j<k∧(j<a.length∧nth a j≠nth b j)
     ·obtain ⟨j,h1,h2⟩:=hx;exact ih j h1 h2
     ·exact ⟨k,hk,fun j hj hc=>hx ⟨j,hj,hc⟩⟩
  have heq : ∀j,j<i→nth a j=nth b j:=fun j hj=>Classical.byContradiction fun hc=>hmin j hj ⟨by omega,hc⟩
  by_cases hl:nth a i<nth b i
  ·exact .inl ⟨i,hi,heq,hl⟩
  ·exact .inr (.inr ⟨i,by omega,fun j hj=>(heq j hj).symm,by omega⟩)
 ·exact .inr (.inl (Lm hab fun i hi=>Classical.byContradiction fun hc=>h ⟨i,hi,hc⟩))
theorem Xx {p q:List Int} (hl:p.length=q.length) (h1:bLt p q) (h2:bLt q p):False:=by
 rcases h1 with h1 | ⟨e1,l1⟩
 ·rcases h2 with h2 | ⟨e2,_⟩<;>omega
 ·rcases h2 with h2 | ⟨_,l2⟩
  ·omega
  ·exact Aq0 p (Aii hl l1 l2)
theorem Am0 {p q r:List Int} (hl:p.length=q.length) (h1:bLt p q) (h2:bLt q r):bLt p r:=by
 rcases h1 with h1 | ⟨e1,l1⟩
 ·rcases h2 with h2 | ⟨e2,_⟩
  ·exact .inl (by omega)
  ·exact .inl (by omega)
 ·rcases h2 with h2 | ⟨e2,l2⟩
  ·exact .inl (by omega)
  ·exact .inr ⟨by omega,Aii hl l1 l2⟩
theorem A28 {p q:List Int} (hl:p.length=q.length):bLt p q∨p=q∨bLt q p:=by
 rcases Nat.lt_trichotomy (blk p) (blk q) with h | h | h
 ·exact .inr (.inr (.inl h))
 ·rcases Azb hl with h1 | h1 | h1
  ·exact .inl (.inr ⟨h,h1⟩)
  ·exact .inr (.inl h1)
  ·exact .inr (.inr (.inr ⟨h.symm,h1⟩))
 ·exact .inl (.inl h)
theorem Abi (p:List Int):¬bLt p p:=fun h=>Xx rfl h h
def Uh (n:Nat) (L:List (List Int)):Prop:=L.Pairwise bLt ∧ ∀r∈L,r.length=n
theorem Uh.nodup {L:List (List Int)} (h:Uh n L):L.Nodup:=List.Pairwise.imp (S:=fun a b=>a≠b) (fun {a b} hab (e:a=b)=>Abi a (by rw [←e] at hab;exact hab)) h.1
theorem Ay2 {L M:List (List Int)} (hL:Uh n L) (hM:Uh n M) (h : ∀z,z∈L↔z∈M):L=M:=by
 refine Awg (fun p q=>bLt p q∧p.length=n∧q.length=n) (fun x y h1 h2=>Xx (by omega) h1.1 h2.1) ?_ ?_ h
 ·exact hL.1.imp_of_mem fun ha hb h=>⟨h,hL.2 _ ha,hL.2 _ hb⟩
 ·exact hM.1.imp_of_mem fun ha hb h=>⟨h,hM.2 _ ha,hM.2 _ hb⟩
theorem Aq9 {L:List (List Int)} {p:List Int} (h8:n≤1000) (hL:L.length≤100000) (hs:Uh n L) (hp:p.length=n) : ∃M,Jg L p=some M∧Uh n M∧(∀z,z∈M↔z∈L∨z=p)∧(p∈L→M=L)∧(p∉L→M.length=L.length+1):=by
 have hLim:=Bn
 unfold Jg
 have hr:=hs.2
 obtain ⟨t,e,t0,t1,tl,th⟩:=C8 (body:=Hz L p) (fun s=>0≤s∧s≤L.length ∧ ∀j:Nat,(j:Int)<s→bLt (nth L j) p) (fun s=>L.length-s.toNat) (fun t=>0≤t∧t≤L.length∧(∀j:Nat,(j:Int)<t→bLt (nth L j) p)∧(t<L.length→¬bLt (nth L t.toNat) p)) (by
  rintro s ⟨s0,s1,s2⟩
  obtain ⟨i,rfl⟩:=Int.eq_ofNat_of_zero_le s0
  unfold Hz
  by_cases hi:i<L.length
  ·have hri:=hr _ (Ak hi)
   have more:bLt (nth L i) p → ∀j:Nat,(j:Int)<(i:Int)+1→bLt (nth L j) p:=fun hb j hj=>by
    rcases Nat.lt_or_ge j i with h | h
    ·exact s2 j (by omega)
    ·have:j=i:=by omega
     subst this;exact hb
   rw [if_pos (by omega),Ae (by omega),tna0,Am3 (by omega),Am3 (by omega)]
   simp only [obs0]
   by_cases c1:blk p<blk (nth L i)
   ·have c1':((Ct (nth L i).length fun k=>decide (nth (nth L i) k=(k:Int))).length:Int)>((Ct p.length fun k=>decide (nth p k=(k:Int))).length:Int):=by unfold blk at c1;omega
    rw [if_pos c1',Ae (by unfold InI;omega)]
    exact .inl ⟨_,rfl,⟨by omega,by omega,more (.inl c1)⟩,by omega⟩
   ·have c1':¬((Ct (nth L i).length fun k=>decide (nth (nth L i) k=(k:Int))).length:Int)>((Ct p.length fun k=>decide (nth p k=(k:Int))).length:Int):=by unfold blk at c1;omega
    rw [if_neg c1',Ae (by omega)]
    by_cases c2:blk (nth L i)=blk p
    ·have c2':((Ct (nth L i).length fun k=>decide (nth (nth L i) k=(k:Int))).length:Int)=((Ct p.length fun k=>decide (nth p k=(k:Int))).length:Int):=by unfold blk at c2;omega
     rw [if_pos c2',Ae (by omega),A1e (by omega) (by omega)]
     simp only [obs0]
     by_cases c3:Ns (nth L i) p
     ·rw [dtr0 c3,if_pos rfl,Ae (by unfold InI;omega)]
      exact .inl ⟨_,rfl,⟨by omega,by omega,more (.inr ⟨c2,c3⟩)⟩,by omega⟩
     ·rw [dfa0 c3,if_neg Bool.false_ne_true]
      refine .inr ⟨_,rfl,by omega,by omega,s2,fun _ hb=> ?_⟩
      rw [tna0] at hb
      rcases hb with h | ⟨_,h⟩
      ·exact c1 h
      ·exact c3 h
    ·have c2':¬((Ct (nth L i).length fun k=>decide (nth (nth L i) k=(k:Int))).length:Int)=((Ct p.length fun k=>decide (nth p k=(k:Int))).length:Int):=by unfold blk at c2;omega
     rw [if_neg c2']
     refine .inr ⟨_,rfl,by omega,by omega,s2,fun _ hb=> ?_⟩
     rw [tna0] at hb
     rcases hb with h | ⟨h,_⟩
     ·exact c1 h
     ·exact c2 h
  ·rw [if_neg (by omega)]
   exact .inr ⟨_,rfl,by omega,by omega,s2,fun h=>by omega⟩) (s:=(0:Int)) ⟨Int.le_refl _,by omega,fun j hj=>by omega⟩
 rw [e]
 simp only [obs0]
 obtain ⟨k,rfl⟩:=Int.eq_ofNat_of_zero_le t0
 rw [tna0] at th
 have hk:k≤L.length:=by omega
 have hlow : ∀r∈L.take k,bLt r p:=fun r hr=>by
  obtain ⟨j,hj,rfl⟩:=G6.1 hr
  rw [List.length_take] at hj
  have:nth (L.take k) j=nth L j:=by rw [C2 (by rw [List.length_take];omega),C2 (by omega),List.getElem_take]
  rw [this];exact tl j (by omega)
 have hat : ∀hk2:k<L.length,nth L k=p∨bLt p (nth L k):=fun hk2=>by
  have hrk:=hr _ (Ak hk2)
  rcases A28 (p:=nth L k) (q:=p) (by omega) with h | h | h
  ·exact absurd h (th (by omega))
  ·exact .inl h
  ·exact .inr h
 have fin:(∀hk2:k<L.length,nth L k≠p) → ∃M,(ask (0≤(0:Int)∧0≤(k:Int)∧(k:Int)≤((L.length:Nat):Int)) <|
  ask ((Aw (List Int)).length+(List.take ((k:Int).toNat-Int.toNat 0) (List.drop (Int.toNat 0) L)).length≤LIM) <|
  ask ((Aw (List Int)++List.take ((k:Int).toNat-Int.toNat 0) (List.drop (Int.toNat 0) L)).length+([p]).length≤LIM) <|
  ask (0≤(k:Int)∧(k:Int)≤(L.length:Int)∧(L.length:Int)≤((L.length:Nat):Int)) <|
  ask ((Aw (List Int)++List.take ((k:Int).toNat-Int.toNat 0) (List.drop (Int.toNat 0) L)++[p]).length+(List.take ((L.length:Int).toNat-(k:Int).toNat) (List.drop (k:Int).toNat L)).length≤LIM) <|
  some (Aw (List Int)++List.take ((k:Int).toNat-Int.toNat 0) (List.drop (Int.toNat 0) L)++[p]++List.take ((L.length:Int).toNat-(k:Int).toNat) (List.drop (k:Int).toNat L)))=some M∧Uh n M∧(∀z,z∈M↔z∈L∨z=p)∧(p∈L→M=L)∧(p∉L→M.length=L.length+1):=by
  intro hne
  have hupp : ∀r∈L.drop k,bLt p r:=fun r hr'=>by
   obtain ⟨j,hj,rfl⟩:=G6.1 hr'
   rw [List.length_drop] at hj
   have e1:nth (L.drop k) j=nth L (k+j):=by rw [C2 (by rw [List.length_drop];omega),C2 (by omega),List.getElem_drop]
   rw [e1]
   have hk2:k<L.length:=by omega
   have hpk:=(hat hk2).resolve_left (hne hk2)
   rcases Nat.eq_zero_or_pos j with h | h
   ·subst h;exact hpk
   ·have hrk:=hr _ (Ak hk2)
    refine Am0 (by omega) hpk ?_
    have:=(List.pairwise_iff_getElem.1 hs.1) k (k+j) hk2 (by omega) (by omega)
    rw [C2 hk2,C2 (by omega)];exact this
  rw [Ae (by omega),Ae (by simp [Aw];omega),Ae (by simp [Aw];omega),Ae (by omega),Ae (by simp [Aw];omega)]
  have eM:Aw (List Int)++List.take ((k:Int).toNat-Int.toNat 0) (List.drop (Int.toNat 0) L)++[p]++List.take ((L.length:Int).toNat-(k:Int).toNat) (List.drop (k:Int).toNat L)=L.take k++p::L.drop k:=by
   rw [tna0,tna0,List.take_of_length_le (l:=List.drop k L) (by simp)]
   show L.take k++[p]++L.drop k=_
   simp
  have hpn:p∉L:=fun hp=>by
   rw [←List.take_append_drop k L] at hp
   rcases List.mem_append.1 hp with h | h
   ·exact Abi p (hlow p h)
   ·exact Abi p (hupp p h)
  refine ⟨_,rfl,?_,?_,fun h=>absurd h hpn,fun _=> ?_⟩
  ·rw [eM]
   refine ⟨?_,fun r hr'=> ?_⟩
   ·rw [List.pairwise_append,List.pairwise_cons]
    refine ⟨hs.1.sublist (List.take_sublist _ _),⟨hupp,hs.1.sublist (List.drop_sublist _ _)⟩,fun x hx y hy=> ?_⟩
    have hxl:=hr x (List.mem_of_mem_take hx)
    rcases List.mem_cons.1 hy with h | h
    ·rw [h];exact hlow x hx
    ·exact Am0 (by omega) (hlow x hx) (hupp y h)
   ·rcases List.mem_append.1 hr' with h | h
    ·exact hr r (List.mem_of_mem_take h)
    ·rcases List.mem_cons.1 h with h | h
     ·rw [h];exact hp
     ·exact hr r (List.mem_of_mem_drop h)
  ·intro z
   rw [eM]
   have hz:z∈L↔z∈L.take k∨z∈L.drop k:=by rw [←List.mem_append,List.take_append_drop]
   rw [hz,List.mem_append,List.mem_cons]
   constructor
   ·rintro (h | h | h)
    ·exact .inl (.inl h)
    ·exact .inr h
    ·exact .inl (.inr h)
   ·rintro ((h | h) | h)
    ·exact .inl h
    ·exact .inr (.inr h)
    ·exact .inr (.inl h)
  ·rw [eM];simp;omega
 by_cases hk2:k<L.length
 ·have hrk:=hr _ (Ak hk2)
  rw [if_pos (by omega),Ae (by omega),tna0,Adz (by omega)]
  simp only [obs0]
  by_cases hs2:nth L k=p
  ·rw [dtr0 hs2]
   have hpm:p∈L:=hs2▸Ak hk2
   exact ⟨L,rfl,hs,fun z=>⟨.inl,fun h=>h.elim id fun h=>h▸hpm⟩,fun _=>rfl,fun h=>absurd hpm h⟩
  ·rw [dfa0 hs2]
   exact fin fun _=>hs2
 ·rw [if_neg (by omega)]
  exact fin fun h=>absurd h hk2
end
section
variable {a:SAlgebra} {n:Nat}
theorem Awj {p q:List Int} (h8:n≤1000) (hp:Bz n p) (hq:Bz n q) : ∃r,Ka p q=some r∧Iz n p q r:=by
 have hpl:=hp.1
 have hql:=hq.1
 unfold Ka
 rw [Ar0 _ (by rw [Bn];omega)]
 simp only [obs0]
 obtain ⟨t,e1,w1,w2,w3,w4⟩:=K8 (body:=Fx q) n (fun k w=>Bz n w∧Bs n p w∧(∀x,x<k→nth w (nth q x).toNat=nth w x) ∧ ∀s,Bz n s→Bs n p s→Bs n q s→Bs n w s) (fun i w hi hw=>by
  obtain ⟨w1,w2,w3,w4⟩:=hw
  have hwl:=w1.1
  have hqi:=hq.2 i hi
  have hqn:(nth q i).toNat<n:=by omega
  unfold Fx
  dsimp only
  rw [if_pos (by omega),Ae (by omega),tna0,Yy (by omega) (by omega) (by omega),tna0]
  simp only [obs0]
  rw [Ae (by unfold InI;omega)]
  refine ⟨_,rfl,Pz w1 hi hqn,w2.trans hp (Vp w1 hi hqn),fun x hx=> ?_,fun s hs h1 h2=>Qh w1 hi hqn (w4 s hs h1 h2) (h2 i hi).symm⟩
  rcases Nat.lt_or_ge x i with h | h
  ·have hqx:=hq.2 x (by omega)
   exact (Vp w1 hi hqn).rel (by omega) (by omega) (w3 x h)
  ·have:x=i:=by omega
   subst this
   exact (Yz w1 hi hqn).symm) (fun w _=>by
  unfold Fx
  dsimp only
  rw [if_neg (by omega)]) p ⟨hp,Nf hp,fun x hx=>by omega,fun s _ h _=>h⟩
 rw [e1]
 exact ⟨t,rfl,w1,w2,w3,w4⟩
theorem Akc (ga:Cf a) (hn:a.Size=n) {x y:Nat} (hx:x<n) (hy:y<n) : ∃c,Gb a (x:Int) (y:Int)=some c∧Df a n x y c:=by
 have h8:=ga.2.1
 have hu:=Ac4 n
 have hul:=hu.1
 unfold Gb
 rw [hn,Vk (by omega)]
 simp only [obs0]
 rw [Yy (by omega) (by omega) (by omega),tna0,tna0]
 simp only [obs0]
 obtain ⟨c,e,hc⟩:=Ajg ga hn (Pz (E5 n) hx hy)
 rw [e]
 refine ⟨c,rfl,?_⟩
 unfold Df
 rw [←Y1 hx hy];exact hc
structure MostL (a:SAlgebra) (n most:Nat) (O:List (List Int)):Prop where
 srt:Uh n O
 cg : ∀r∈O,Gq a n r
 id':Ce n∈O
 le:O.length≤most+1
 all:O.length≤most → ∀t,Gq a n t→t∈O
theorem Amv (ga:Cf a) (hn:a.Size=n) {most:Nat} (hm:most≤10000) : ∃O,Cj a (most:Int)=some O∧MostL a n most O:=by
 have hLim:=Bn
 have h8:=ga.2.1
 have h1:=ga.1
 have hu:=E5 n
 have hcu:=T8 ga hn
 unfold Cj
 have l1 : ∀x,x<n → ∀L:List (List Int),Uh n L→L.length≤8*x→(∀c,c∈L ↔ ∃u v,u<x∧v<u∧Df a n u v c) → ∃M,Al (F0 a (most:Int) (x:Int)) (0,L)=some M∧Uh n M∧M.length≤8*(x+1) ∧ ∀c,c∈M ↔ ∃u v,u<x+1∧v<u∧Df a n u v c:=by
  intro x hx L hs hL hr
  obtain ⟨M,e,q1,q2,q3⟩:=C8 (body:=F0 a (most:Int) (x:Int)) (fun s => ∃i:Nat,s.1=(i:Int)∧i≤x∧s.2.length≤8*x+i∧Uh n s.2 ∧ ∀c,c∈s.2↔(∃u v,u<x∧v<u∧Df a n u v c) ∨ ∃v,v<i∧Df a n x v c) (fun s=>x-s.1.toNat) (fun M=>Uh n M∧M.length≤8*(x+1) ∧ ∀c,c∈M ↔ ∃u v,u<x+1∧v<u∧Df a n u v c) (by
   rintro ⟨y,M⟩ ⟨i,rfl,g1,g2,g3,g4⟩
   dsimp only at g2 g3 g4
   unfold F0
   dsimp only
   by_cases hi:i<x
   ·obtain ⟨t,e,ht⟩:=Akc ga hn hx (show i<n by omega)
    obtain ⟨M',e',m1,m2,m3,m4⟩:=Aq9 (n:=n) (L:=M) (p:=t) (by omega) (by omega) g3 ht.1.1.1
    have hlen:M'.length≤M.length+1:=by
     by_cases hin:t∈M
     ·rw [m3 hin];omega
     ·rw [m4 hin];omega
    rw [if_pos (by omega),e]
    simp only [obs0]
    rw [e']
    simp only [obs0]
    rw [Ae (by unfold InI;omega)]
    refine .inl ⟨_,rfl,⟨i+1,rfl,hi,by dsimp only;omega,m1,fun c=> ?_⟩,by dsimp only;omega⟩
    dsimp only
    rw [m2,g4]
    constructor
    ·rintro ((h | ⟨v,hv,h⟩) | h)
     ·exact .inl h
     ·exact .inr ⟨v,by omega,h⟩
     ·exact .inr ⟨i,by omega,h▸ht⟩
    ·rintro (h | ⟨v,hv,h⟩)
     ·exact .inl (.inl h)
     ·by_cases hvi:v<i
      ·exact .inl (.inr ⟨v,hvi,h⟩)
      ·have:v=i:=by omega
       subst this
       exact .inr (Aga h ht)
   ·rw [if_neg (by omega)]
    have:i=x:=by omega
    subst this
    refine .inr ⟨_,rfl,g3,by omega,fun c=> ?_⟩
    rw [g4]
    constructor
    ·rintro (⟨u,v,hu,hv,h⟩ | ⟨v,hv,h⟩)
     ·exact ⟨u,v,by omega,hv,h⟩
     ·exact ⟨i,v,by omega,hv,h⟩
    ·rintro ⟨u,v,hu,hv,h⟩
     by_cases hui:u<i
     ·exact .inl ⟨u,v,hui,hv,h⟩
     ·have:u=i:=by omega
      subst this
      exact .inr ⟨v,hv,h⟩) (s:=((0:Int),L)) ⟨0,rfl,Nat.zero_le _,by dsimp only;omega,hs,fun c=>by
    dsimp only
    rw [hr]
    exact ⟨.inl,fun h=>h.elim id fun ⟨v,hv,_⟩=>by omega⟩⟩
  exact ⟨M,e,q1,q2,q3⟩
 obtain ⟨P,e1,hPs,hPl,hP⟩:=C8 (body:=Hd a (most:Int)) (fun s => ∃i:Nat,s.2=(i:Int)∧i≤n∧Uh n s.1∧s.1.length≤8*i ∧ ∀c,c∈s.1 ↔ ∃u v,u<i∧v<u∧Df a n u v c) (fun s=>n-s.2.toNat) (fun M=>Uh n M∧M.length≤64 ∧ ∀c,c∈M ↔ ∃u v,u<n∧v<u∧Df a n u v c) (by
  rintro ⟨M,y⟩ ⟨i,rfl,g1,g2,g3,g4⟩
  dsimp only at g2 g3 g4
  unfold Hd
  dsimp only
  by_cases hi:i<n
  ·obtain ⟨M',e,q1,q2,q3⟩:=l1 i hi M g2 g3 g4
   rw [if_pos (by omega),e]
   simp only [obs0]
   rw [Ae (by unfold InI;omega)]
   exact .inl ⟨_,rfl,⟨i+1,rfl,hi,q1,q2,q3⟩,by dsimp only;omega⟩
  ·rw [if_neg (by omega)]
   have:i=n:=by omega
   subst this
   exact .inr ⟨_,rfl,g2,by omega,g4⟩) (s:=(Aw (List Int),(0:Int))) ⟨0,rfl,Nat.zero_le _,⟨List.Pairwise.nil,fun r hr=>by simp [Aw] at hr⟩,by simp [Aw],fun c=>by
   dsimp only
   exact ⟨fun h=>by simp [Aw] at h,fun ⟨u,v,hu,_⟩=>by omega⟩⟩
 rw [e1]
 simp only [obs0]
 rw [hn,Vk (by omega)]
 simp only [obs0]
 have pr : ∀k,k<P.length → ∃u v,u<n∧v<u∧Df a n u v (nth P k):=fun k hk=>(hP _).1 (Ak hk)
 have l3 : ∀x (W O:List (List Int)),x<W.length→W.length=O.length→(∀z,z∈W↔z∈O)→Uh n O→O.length≤most+1→(∀r∈O,Gq a n r)→Ce n∈O →
   ∃W' O',Al (Fy (most:Int) P (x:Int)) (0,W,O)=some (W',O')∧(∃X,W'=W++X)∧W'.length=O'.length∧(∀z,z∈W'↔z∈O')∧Uh n O'∧O'.length≤most+1∧(∀r∈O',Gq a n r)∧Ce n∈O'∧(O'.length≤most → ∀k,k<P.length → ∀j,Iz n (nth W x) (nth P k) j→j∈O'):=by
  intro x W O hx hWO hmem hs hO hcg hid
  obtain ⟨⟨W',O'⟩,e,h⟩:=C8 (body:=Fy (most:Int) P (x:Int)) (fun s => ∃i:Nat,s.1=(i:Int)∧i≤P.length∧(∃X,s.2.1=W++X)∧s.2.1.length=s.2.2.length∧(∀z,z∈s.2.1↔z∈s.2.2)∧Uh n s.2.2∧s.2.2.length≤most+1∧(∀r∈s.2.2,Gq a n r)∧Ce n∈s.2.2 ∧ ∀k,k<i → ∀j,Iz n (nth W x) (nth P k) j→j∈s.2.2) (fun s=>P.length-s.1.toNat)
   (fun s=>(∃X,s.1=W++X)∧s.1.length=s.2.length∧(∀z,z∈s.1↔z∈s.2)∧Uh n s.2∧s.2.length≤most+1∧(∀r∈s.2,Gq a n r)∧Ce n∈s.2∧(s.2.length≤most → ∀k,k<P.length → ∀j,Iz n (nth W x) (nth P k) j→j∈s.2)) (by
   rintro ⟨y,W',O'⟩ ⟨i,rfl,g1,⟨X,hX⟩,g3,g4,g5,g6,g7,g8,g9⟩
   dsimp only at hX g3 g4 g5 g6 g7 g8 g9
   unfold Fy
   dsimp only
   by_cases hi:i<P.length
   ·rw [if_pos (by omega)]
    by_cases hm2:O'.length≤most
    ·rw [if_pos (by omega)]
     simp only [obs0]
     have hWx:nth W' x=nth W x:=by
      rw [hX,C2 (by simp;omega),C2 hx,List.getElem_append_left hx]
     have hx':x<W'.length:=by rw [hX];simp;omega
     have hcx:=g7 _ ((g4 _).1 (Ak hx'))
     obtain ⟨u,v,hu',hv',hpk⟩:=pr i hi
     obtain ⟨t,e,ht⟩:=Awj (by omega) hcx.1 hpk.1.1
     have hct:=Amq ga hn hcx hpk.1 ht
     obtain ⟨M',e',m1,m2,m3,m4⟩:=Aq9 (n:=n) (L:=O') (p:=t) (by omega) (by omega) g5 ht.1.1
     rw [Ae (by omega),Ae (by omega),tna0,tna0,e]
     simp only [obs0]
     rw [e']
     simp only [obs0]
     have done : ∀M:List (List Int),(∀z,z∈O'∨z=t→z∈M) → ∀k,k<i+1 → ∀j,Iz n (nth W x) (nth P k) j→j∈M:=fun M hM k hk j hj=>by
      rcases Nat.lt_or_ge k i with h | h
      ·exact hM j (.inl (g9 k h j hj))
      ·have:k=i:=by omega
       subst this
       rw [hWx] at ht
       exact hM j (.inr (hj.uniq ht))
     by_cases hin:t∈O'
     ·have hM:=m3 hin
      subst hM
      rw [if_neg (by omega),Ae (by unfold InI;omega)]
      exact .inl ⟨_,rfl,⟨i+1,rfl,hi,⟨X,hX⟩,g3,g4,g5,g6,g7,g8,done _ fun z h=>h.elim id fun h=>h▸hin⟩,by dsimp only;omega⟩
     ·have hlen:=m4 hin
      rw [if_pos (by omega),Ae (by simp;omega),Ae (by unfold InI;omega)]
      refine .inl ⟨_,rfl,⟨i+1,rfl,hi,⟨X++[t],by dsimp only;rw [hX,List.append_assoc]⟩,by simp;omega,fun z=> ?_,m1,by dsimp only;omega,fun r hr=> ?_,(m2 _).2 (.inl g8),done _ fun z h=>(m2 z).2 h⟩,by dsimp only;omega⟩
      ·dsimp only
       rw [m2,List.mem_append,List.mem_singleton,g4]
      ·rcases (m2 r).1 hr with h | h
       ·exact g7 r h
       ·rw [h];exact hct
    ·rw [if_neg (by omega)]
     exact .inr ⟨_,rfl,⟨X,hX⟩,g3,g4,g5,g6,g7,g8,fun h=>absurd h hm2⟩
   ·rw [if_neg (by omega)]
    have:i=P.length:=by omega
    subst this
    exact .inr ⟨_,rfl,⟨X,hX⟩,g3,g4,g5,g6,g7,g8,fun _=>g9⟩) (s:=((0:Int),W,O)) ⟨0,rfl,Nat.zero_le _,⟨[],by simp⟩,hWO,hmem,hs,hO,hcg,hid,fun k hk=>by omega⟩
  exact ⟨W',O',e,h⟩
 obtain ⟨L,e2,h⟩:=C8 (body:=Hh (most:Int) P) (fun s => ∃i:Nat,s.2.2=(i:Int)∧i≤s.1.length∧s.1.length=s.2.1.length∧(∀z,z∈s.1↔z∈s.2.1)∧Uh n s.2.1∧s.2.1.length≤most+1∧(∀r∈s.2.1,Gq a n r)∧Ce n∈s.2.1∧(s.2.1.length≤most → ∀x,x<i → ∀k,k<P.length → ∀j,Iz n (nth s.1 x) (nth P k) j→j∈s.2.1)) (fun s=>most+1-s.2.2.toNat) (fun L=>MostL a n most L) (by
  rintro ⟨W,O,y⟩ ⟨i,rfl,g1,g2,g3,g4,g5,g6,g7,g8⟩
  dsimp only at g1 g2 g3 g4 g5 g6 g7 g8
  unfold Hh
  dsimp only
  by_cases hi:i<W.length
  ·rw [if_pos (by omega)]
   by_cases hm2:O.length≤most
   ·rw [if_pos (by omega)]
    simp only [obs0]
    obtain ⟨W',O',e,⟨X,hX⟩,q2,q3,q4,q5,q6,q7,q8⟩:=l3 i W O hi g2 g3 g4 g5 g6 g7
    rw [e]
    simp only [obs0]
    rw [Ae (by unfold InI;omega)]
    refine .inl ⟨_,rfl,⟨i+1,rfl,by dsimp only;rw [hX];simp;omega,q2,q3,q4,q5,q6,q7,fun hle x hx k hk j hj=> ?_⟩,by dsimp only;omega⟩
    dsimp only at hle hj ⊢
    have hWx:nth W' x=nth W x:=by
     rw [hX,C2 (by simp;omega),C2 (by omega),List.getElem_append_left (by omega)]
    rw [hWx] at hj
    rcases Nat.lt_or_ge x i with h | h
    ·have hsub:O.length≤O'.length:=by rw [←g2,←q2,hX];simp
     have hjO:=g8 (by omega) x h k hk j hj
     exact (q3 j).1 (by rw [hX];exact List.mem_append.2 (.inl ((g3 j).2 hjO)))
    ·have:x=i:=by omega
     subst this
     exact q8 hle k hk j hj
   ·rw [if_neg (by omega)]
    exact .inr ⟨_,rfl,⟨g4,g6,g7,g5,fun h=>absurd h hm2⟩⟩
  ·rw [if_neg (by omega)]
   have hiW:i=W.length:=by omega
   refine .inr ⟨_,rfl,⟨g4,g6,g7,g5,fun hle t ht=>Aim ga hn g6 g7 (fun m hm u v hu hv c j hc hj=> ?_) ht⟩⟩
   obtain ⟨x,hx,ex⟩:=G6.1 ((g3 m).2 hm)
   obtain ⟨k,hk,ek⟩:=G6.1 ((hP c).2 ⟨u,v,hu,hv,hc⟩)
   exact g8 hle x (by omega) k hk j (by rw [ex,ek];exact hj)) (s:=([Ce n],[Ce n],(0:Int))) ⟨0,rfl,by simp,rfl,fun z=>Iff.rfl,⟨by simp,fun r hr=>by rw [List.mem_singleton.1 hr];exact hu.1⟩,by simp,fun r hr=>by rw [List.mem_singleton.1 hr];exact hcu,by simp,fun _ x hx=>by omega⟩
 rw [e2]
 exact ⟨L,rfl,h⟩
end
end Go.Proofs.YtjcekpmojnnmbaaGreat.Ax
namespace Go.Proofs.YtjcekpmojnnmbaaGreat.Ax
open Go Classical
section
variable {n m:Nat} {f g:Nat→Nat→Bool}
end
end Go.Proofs.YtjcekpmojnnmbaaGreat.Ax
namespace Go.Proofs.YtjcekpmojnnmbaaGreat.Ax
open Go Classical
section
end
theorem A3l {xs:List Int} (h:xs.length≤LIM):Es xs xs=some true:=by
 have hL:=Bn
 unfold Es
 rw [if_neg (by simp)]
 have:=Fm (body:=Cc xs xs) (fun i=>(i:Int)) xs.length (.inr ()) (fun i hi=>by
  unfold Cc
  rw [if_pos (by omega)]
  repeat rw [Ae (by first | omega | (unfold InI;omega))]
  rw [if_neg (by simp)]
  rfl) (by
  unfold Cc
  rw [if_neg (by omega)])
 have h0:Al (Cc xs xs) 0=some (.inr ()):=this
 rw [h0];rfl
theorem Ass {xss:List (List Int)} (h:xss.length≤LIM) (h1 : ∀r∈xss,r.length≤LIM):H6 xss xss=some true:=by
 have hL:=Bn
 unfold H6
 rw [if_neg (by simp)]
 have:=Fm (body:=Eh xss xss) (fun i=>(i:Int)) xss.length (.inr ()) (fun i hi=>by
  unfold Eh
  rw [if_pos (by omega)]
  repeat rw [Ae (by first | omega | (unfold InI;omega))]
  rw [tna0,A3l (h1 _ (Ak hi))]
  simp only [obs0,if_true]
  rfl) (by
  unfold Eh
  rw [if_neg (by omega)])
 have h0:Al (Eh xss xss) 0=some (.inr ()):=this
 rw [h0];rfl
section
variable {n m:Nat} {f g:Nat→Nat→Bool}
end
end Go.Proofs.YtjcekpmojnnmbaaGreat.Ax
namespace Go.Proofs.YtjcekpmojnnmbaaGreat.Ax
open Go Classical
theorem Ao9 (a:List Int):¬Ns a a:=fun ⟨i,_,_,h⟩=>by omega
theorem Aq6 {a b c:List Int} (hab:a.length=b.length) (h1:Ns a b) (h2:Ns b c):Ns a c:=by
 obtain ⟨i,hi,e1,l1⟩:=h1
 obtain ⟨k,hk,e2,l2⟩:=h2
 rcases Nat.lt_trichotomy i k with h | h | h
 ·exact ⟨i,hi,fun j hj=>(e1 j hj).trans (e2 j (by omega)),by rw [←e2 i h];exact l1⟩
 ·subst h;exact ⟨i,hi,fun j hj=>(e1 j hj).trans (e2 j hj),by omega⟩
 ·exact ⟨k,by omega,fun j hj=>(e1 j (by omega)).trans (e2 j hj),by rw [e1 k h];exact l2⟩
theorem Ayf {a b:List Int} (hab:a.length=b.length):Ns a b∨a=b∨Ns b a:=by
 by_cases h : ∃i,i<a.length∧nth a i≠nth b i
 ·obtain ⟨i,⟨hi,hne⟩,hmin⟩ : ∃i,(i<a.length∧nth a i≠nth b i) ∧ ∀j,j<i→¬(j<a.length∧nth a j≠nth b j):=by
   obtain ⟨k,hk⟩:=h
   induction k using Nat.strongRecOn with
   | ind k ih=>
     by_cases hx : ∃j,j<k∧(j<a.length∧nth a j≠nth b j)
     ·obtain ⟨j,h1,h2⟩:=hx;exact ih j h1 h2
     ·exact ⟨k,hk,fun j hj hc=>hx ⟨j,hj,hc⟩⟩
  have heq : ∀j,j<i→nth a j=nth b j:=fun j hj=>Classical.byContradiction fun hc=>hmin j hj ⟨by omega,hc⟩
  by_cases hl:nth a i<nth b i
  ·exact .inl ⟨i,hi,heq,hl⟩
  ·exact .inr (.inr ⟨i,by omega,fun j hj=>(heq j hj).symm,by omega⟩)
 ·exact .inr (.inl (Lm hab fun i hi=>Classical.byContradiction fun hc=>h ⟨i,hi,hc⟩))
def tLt (a b:List Int):Prop:=a.length<b.length∨(a.length=b.length∧Ns a b)
theorem At0 (a:List Int):¬tLt a a:=fun h=>h.elim (fun h=>by omega) fun h=>Ao9 a h.2
theorem Ayn {a b c:List Int} (h1:tLt a b) (h2:tLt b c):tLt a c:=by
 rcases h1 with h1 | ⟨e1,l1⟩
 ·rcases h2 with h2 | ⟨e2,_⟩
  ·exact .inl (by omega)
  ·exact .inl (by omega)
 ·rcases h2 with h2 | ⟨e2,l2⟩
  ·exact .inl (by omega)
  ·exact .inr ⟨by omega,Aq6 e1 l1 l2⟩
theorem A2d (a b:List Int):tLt a b∨a=b∨tLt b a:=by
 rcases Nat.lt_trichotomy a.length b.length with h | h | h
 ·exact .inl (.inl h)
 ·rcases Ayf h with h1 | h1 | h1
  ·exact .inl (.inr ⟨h,h1⟩)
  ·exact .inr (.inl h1)
  ·exact .inr (.inr (.inr ⟨h.symm,h1⟩))
 ·exact .inr (.inr (.inl h))
end Go.Proofs.YtjcekpmojnnmbaaGreat.Ax
namespace Go.Proofs.YtjcekpmojnnmbaaGreat.Ax
open Go Classical
section
variable {a:SAlgebra} {n:Nat}
theorem Ats.closed (h:ReadyA a n) {xs:List Int} (hx:Ats a n xs):Y9 a fun z=>decide ((z:Int)∈xs):=((Aug h).1 hx).2.2
end
end Go.Proofs.YtjcekpmojnnmbaaGreat.Ax
namespace Go.Proofs.YtjcekpmojnnmbaaGreat.Ax
open Go Classical
section
variable {a:SAlgebra} {n:Nat}
end
end Go.Proofs.YtjcekpmojnnmbaaGreat.Ax
namespace Go.Proofs.YtjcekpmojnnmbaaGreat.Ax
open Go Classical
section
variable {a:SAlgebra} {n:Nat}
end
theorem Afw {α:Type} [Inhabited α] {body:(Int×List α)→Option ((Int×List α) ⊕ List α)} (rows:List α) (P:α→Bool)
  (h : ∀(i:Nat) acc,i<rows.length→acc.length≤i→body ((i:Int),acc)=some (.inl (((i+1:Nat):Int),if P (nth rows i) then acc++[nth rows i] else acc)))
  (he : ∀acc,body ((rows.length:Int),acc)=some (.inr acc)):Al body (0,Aw α)=some (rows.filter P):=by
 have:=Fm (body:=body) (fun i=>((i:Int),(rows.take i).filter P)) rows.length (rows.filter P) (fun i hi=>by
  have hl:((rows.take i).filter P).length≤i:=Nat.le_trans (List.length_filter_le _ _) (by simp;omega)
  rw [h i _ hi hl,Lt hi,List.filter_append]
  cases hP:P (nth rows i)<;>simp [hP]) (by rw [List.take_length];exact he _)
 simpa [Aw] using this
section
variable {a:SAlgebra} {n:Nat}
end
end Go.Proofs.YtjcekpmojnnmbaaGreat.Ax
namespace Go.Proofs.YtjcekpmojnnmbaaGreat.Ax
open Go Classical
theorem Aqs {xs:List Int} (h:xs.length≤LIM):Jf xs=some xs:=by
 unfold Jf
 rw [Ae (by show 0+xs.length≤_;omega)];rfl
theorem A3f {α:Type} [Inhabited α] {xs:List α} (hd:xs.Nodup) {i k:Nat} (hi:i<xs.length) (hk:k<xs.length) (e:nth xs i=nth xs k):i=k:=by
 rw [C2 hi,C2 hk] at e
 rcases Nat.lt_trichotomy i k with h | h | h
 ·exact absurd e (List.pairwise_iff_getElem.1 hd i k hi hk h)
 ·exact h
 ·exact absurd e.symm (List.pairwise_iff_getElem.1 hd k i hk hi h)
def Afm (n:Nat) (bad:Nat→Prop):Prop := ∃i,i<n∧bad i
theorem Afm.mk {n:Nat} {bad:Nat→Prop} (i:Nat) (h:i<n) (hb:bad i):Afm n bad:=⟨i,h,hb⟩
theorem Axd {body:(Int×Bool)→Option ((Int×Bool) ⊕ Bool)} (n:Nat) (bad:Nat→Prop) (v:Bool)
  (h : ∀(i:Nat) b,i<n→body ((i:Int),b)=some (.inl (((i+1:Nat):Int),if bad i then v else b)))
  (he : ∀b,body ((n:Int),b)=some (.inr b)) (b0:Bool):Al body (0,b0)=some (if Afm n bad then v else b0):=by
 have:=Fm (body:=body) (fun i=>((i:Int),if Afm i bad then v else b0)) n (if Afm n bad then v else b0) (fun i hi=>by
  rw [h i _ hi]
  congr 3
  by_cases hb:bad i
  ·rw [if_pos hb,if_pos (Afm.mk i (by omega) hb)]
  ·rw [if_neg hb]
   by_cases hx:Afm i bad
   ·obtain ⟨j,h1,h2⟩:=hx
    rw [if_pos (Afm.mk j h1 h2),if_pos (Afm.mk j (by omega) h2)]
   ·rw [if_neg hx,if_neg]
    rintro ⟨j,h1,h2⟩
    by_cases e:j=i
    ·subst e;exact hb h2
    ·exact hx (Afm.mk j (by omega) h2)) (he _)
 have e0:((0:Int),b0)=(((0:Nat):Int),if Afm 0 bad then v else b0):=by
  rw [if_neg (by rintro ⟨j,h1,_⟩;omega)];rfl
 rw [e0];exact this
theorem Atr {rows:List (List Int)} (hn:rows.length≤1048576) (hl : ∀r∈rows,r.length≤1048576) (hd:rows.Nodup) {bey:List Int→List Int→Option Bool} (B:List Int→List Int→Prop)
  (hB : ∀r∈rows,∀q∈rows,bey r q=some (decide (B r q))):Gm rows bey=some (rows.filter fun r=>decide (∀q∈rows,q≠r→¬B r q)):=by
 have hL:=Bn
 unfold Gm
 rw [Afw (body:=Er rows bey) rows (fun r=>decide (∀q∈rows,q≠r→¬B r q)) (fun i acc hi ha=>by
  have hri:=Ak hi
  have hrl:=hl _ hri
  unfold Er
  dsimp only
  rw [if_pos (by omega),Ae (by omega),Axd (body:=Ej rows bey (i:Int) acc) rows.length (fun k=>k≠i∧B (nth rows i) (nth rows k)) false (fun k b hk=>by
   unfold Ej
   dsimp only
   rw [if_pos (by omega),Ae (by omega),tna0,tna0]
   by_cases e:k=i
   ·rw [if_neg (by omega),if_neg (fun hh=>hh.1 e),Ae (by unfold InI;omega)];rfl
   ·rw [if_pos (by omega),hB _ hri _ (Ak hk)]
    simp only [obs0]
    by_cases hb:B (nth rows i) (nth rows k)
    ·rw [dtr0 hb,if_pos rfl,if_pos ⟨e,hb⟩,Ae (by unfold InI;omega)];rfl
    ·rw [dfa0 hb,if_neg (by simp),if_neg (fun hh=>hb hh.2),Ae (by unfold InI;omega)];rfl) (fun b=>by
   unfold Ej
   dsimp only
   rw [if_neg (by omega)]) true]
  simp only [obs0]
  rw [tna0]
  by_cases hx:Afm rows.length fun k=>k≠i∧B (nth rows i) (nth rows k)
  ·rw [if_pos hx,if_neg (by simp),Ae (by unfold InI;omega),dfa0,if_neg (by simp)]
   ·rfl
   ·intro hall
    obtain ⟨k,h1,h2,h3⟩:=hx
    exact hall _ (Ak h1) (fun e=>h2 (A3f hd h1 hi e)) h3
  ·rw [if_neg hx,if_pos rfl,Aqs (by omega)]
   simp only [obs0]
   rw [Ae (by simp;omega),Ae (by unfold InI;omega),dtr0,if_pos rfl]
   ·rfl
   ·intro q hq hne hb
    obtain ⟨k,hk,rfl⟩:=G6.1 hq
    exact hx (Afm.mk k hk ⟨fun e=>hne (by rw [e]),hb⟩)) (fun acc=>by
  unfold Er
  dsimp only
  rw [if_neg (by omega)])]
 rfl
section
variable {a:SAlgebra} {n:Nat}
end
end Go.Proofs.YtjcekpmojnnmbaaGreat.Ax
namespace Go.Proofs.YtjcekpmojnnmbaaGreat.Ax
open Go Classical
theorem Aju {σ:Type} {body:σ→Option (σ ⊕ (Bool×Bool×List Int))} (st:Nat→Bool×Bool×List Int→σ) (N:Nat) (Inv:List Int→Prop)
  (h : ∀i s,i<N→Inv s.2.2 → ∃s',body (st i s)=some (.inl (st (i+1) s'))∧Inv s'.2.2)
  (he : ∀s,body (st N s)=some (.inr s)) (s:Bool×Bool×List Int) (hs:Inv s.2.2) : ∃s',Al body (st 0 s)=some s'∧Inv s'.2.2:=by
 have key : ∀k,k≤N → ∀s,Inv s.2.2 → ∃s',Al body (st (N-k) s)=some s'∧Inv s'.2.2:=by
  intro k
  induction k with
  | zero=>
    intro _ s hs
    exact ⟨s,D4 (he s),hs⟩
  | succ k ih=>
    intro hk s hs
    obtain ⟨t,e1,r1⟩:=h (N-(k+1)) s (by omega) hs
    obtain ⟨r,e2,r2⟩:=ih (by omega) t r1
    have e:N-(k+1)+1=N-k:=by omega
    exact ⟨r,by rw [Gc e1,e];exact e2,r2⟩
 obtain ⟨r,e,hr⟩:=key N (Nat.le_refl _) s hs
 rw [Nat.sub_self] at e
 exact ⟨r,e,hr⟩
section
variable {a:SAlgebra} {n:Nat} {p:List Int}
theorem Ax2 (ga:Cf a) (hn:a.Size=n) (hp:Bz n p) {o e:Nat} (ho:o<a.Ops.length) (he:e<(nth a.Ops o).Arity.toNat) (s:Bool×Bool×List Int) (hs:Rr a n p s.2.2) :
  ∃s',Al (A7 a (o:Int) (e:Int) ((n^e:Nat):Int)) (0,s.1,s.2.1,s.2.2)=some s'∧Rr a n p s'.2.2:=by
 obtain ⟨r,r3,hr,hT,hTi,h512,hn0,hn8⟩:=opX ga hn ho
 refine Aju (body:=A7 a (o:Int) (e:Int) ((n^e:Nat):Int)) (fun i s=>((i:Int),s.1,s.2.1,s.2.2)) (nth a.Ops o).Table.length (Rr a n p) (fun i s hi hm=> ?_) (fun s=> ?_) s hs
 ·obtain ⟨c,w,q⟩:=s
  dsimp only at hm ⊢
  have hs:=hm.ok
  obtain ⟨x,ex⟩ : ∃x,x=i/n^e%n:=⟨_,rfl⟩
  have hx:x<n:=by rw [ex];exact Nat.mod_lt _ hn0
  obtain ⟨y,ey⟩ : ∃y,y=i/n^e:=⟨_,rfl⟩
  have c1:(i:Int).tdiv ((n^e:Nat):Int)=(y:Int):=by rw [ey];rfl
  have c2:(y:Int).tmod (n:Int)=(x:Int):=by rw [ex,ey];rfl
  have sw:Aeu n q e i=(i:Int)+(nth q x-(x:Int))*((n^e:Nat):Int):=by rw [ex];rfl
  obtain ⟨d,hd,hd2⟩:=Acy hn0 hs (r:=r) (i:=i) (by omega) (show e<r by omega)
  have hd0:=hd
  rw [sw] at hd
  have hpow:0<n^e:=Nat.pow_pos hn0
  have hq:=hs.2 _ (Ak (show x<q.length by rw [hs.1];exact hx))
  have hsl:=hs.1
  have y1:=hTi _ (Ak (show i<(nth a.Ops o).Table.length from hi))
  have y2:=hTi _ (Ak (show d<(nth a.Ops o).Table.length by omega))
  have hdiv:y≤i:=by rw [ey];exact Nat.div_le_self _ _
  have hu:=Ahz (p:=q) (by omega) (X:=nth (nth a.Ops o).Table i) (Y:=nth (nth a.Ops o).Table d) (by omega) (by omega)
  have hpu:Apd a n q (nth (nth a.Ops o).Table i).toNat (nth (nth a.Ops o).Table d).toNat:=⟨o,i,e,ho,he,hi,by omega,by rw [hd0,tna0];omega⟩
  have hmid:=Am5 ga hn hp hm hm (show (nth (nth a.Ops o).Table i).toNat<n by omega) (show (nth (nth a.Ops o).Table d).toNat<n by omega) hpu
  unfold A7
  dsimp only
  simp only [hn,c1,c2,tna0,hd]
  rw [if_pos (by omega),Ae (by omega),Ae (by unfold InI;omega),Ae (by omega),Ae (by omega),Ae (by unfold InI;omega),Ae (by unfold InI;omega),Ae (by unfold InI;omega),Ae (by omega),hu]
  simp only [obs0]
  by_cases hk:nth q (nth (nth a.Ops o).Table i).toNat=nth q (nth (nth a.Ops o).Table d).toNat
  ·rw [dfa0 (fun hh=>hh hk),if_neg (by simp),Ae (by unfold InI;omega)]
   exact ⟨(c,w,_),rfl,hmid⟩
  ·rw [dtr0 hk,if_pos rfl,Ae (by unfold InI;omega)]
   exact ⟨(true,true,_),rfl,hmid⟩
 ·unfold A7
  dsimp only
  rw [tna0,if_neg (by omega)]
theorem Ayl (ga:Cf a) (hn:a.Size=n) (hp:Bz n p) {o:Nat} (ho:o<a.Ops.length) (s:Bool×Bool×List Int) (hs:Rr a n p s.2.2) :
  ∃s',Al (A6 a (o:Int)) (0,1,s.1,s.2.1,s.2.2)=some s'∧Rr a n p s'.2.2:=by
 obtain ⟨r,r3,hr,hT,hTi,h512,hn0,hn8⟩:=opX ga hn ho
 refine Aju (body:=A6 a (o:Int)) (fun e s=>((e:Int),((n^e:Nat):Int),s.1,s.2.1,s.2.2)) (nth a.Ops o).Arity.toNat (Rr a n p) (fun e s he hs=> ?_) (fun s=> ?_) s hs
 ·obtain ⟨s',e1,r1⟩:=Ax2 ga hn hp ho he s hs
  refine ⟨s',?_,r1⟩
  unfold A6
  dsimp only
  have hp:n^e*n≤512:=by rw [←Nat.pow_succ];exact Xt hn8 (by omega)
  have hp':((n^e:Nat):Int)*(n:Int)=((n^e*n:Nat):Int):=by rw [Int.natCast_mul]
  rw [tna0,if_pos (by omega),e1]
  simp only [obs0]
  rw [hn,hp',Ae (by unfold InI;omega),Ae (by unfold InI;omega),Nat.pow_succ]
  rfl
 ·unfold A6
  dsimp only
  rw [tna0,if_neg (by omega)]
theorem Awv (ga:Cf a) (hn:a.Size=n) (hp:Bz n p) (s:Bool×Bool×List Int) (hs:Rr a n p s.2.2) :
  ∃s',Al (As a) (0,s.1,s.2.1,s.2.2)=some s'∧Rr a n p s'.2.2∧Rel n s s' (Alx a n s.2.2):=by
 obtain ⟨s',e,h⟩:=Aju (body:=As a) (fun o s=>((o:Int),s.1,s.2.1,s.2.2)) a.Ops.length (Rr a n p) (fun o s ho hs=>by
  obtain ⟨s',e1,r1⟩:=Ayl ga hn hp ho s hs
  refine ⟨s',?_,r1⟩
  unfold As
  dsimp only
  have:=ga.2.2.1
  rw [if_pos (by omega),Ae (by omega),e1]
  simp only [obs0]
  rw [Ae (by unfold InI;omega)]
  rfl) (fun s=>by
  unfold As
  dsimp only
  rw [if_neg (by omega)]) s hs
 obtain ⟨s2,e2,h2⟩:=Axt ga hn s hs.ok
 have e':Al (As a) (0,s.1,s.2.1,s.2.2)=some s':=e
 rw [e2] at e'
 cases e'
 exact ⟨_,e2,h,h2⟩
theorem Acv (ga:Cf a) (hn:a.Size=n) (hp:Bz n p) : ∃b q,Ee a p=some (b,q)∧Xy a n p q:=by
 unfold Ee
 obtain ⟨t,ht,hpost⟩:=C8 (body:=Dd a) (fun s=>Rr a n p s.2.2∧(s.1=false→Alx a n s.2.2)) (fun s=>if s.1=true then 1+wgt s.2.2 else 0) (fun t=>Xy a n p t.2) (by
  rintro ⟨c,w,q⟩ ⟨hm,hk⟩
  dsimp only at hm hk
  unfold Dd
  dsimp only
  by_cases hc:c=true
  ·subst hc
   rw [if_pos rfl]
   obtain ⟨⟨c',w',q'⟩,e,hm',hr⟩:=Awv ga hn hp (false,w,q) hm
   have e':Al (As a) (0,false,w,q)=some (c',w',q'):=e
   rw [e']
   simp only [obs0]
   obtain ⟨r1,r2,r3⟩:=hr
   dsimp only at hm' r1 r2 r3
   refine .inl ⟨_,rfl,⟨hm',fun hf=> ?_⟩,?_⟩
   ·dsimp only at hf ⊢
    rcases r3 with ⟨r3,r4⟩ | ⟨_,r4,_⟩
    ·cases r3
     exact r4
    ·rw [hf] at r4;cases r4
   ·dsimp only
    have hq0 : ∀x∈q',0≤x:=fun x hx=>(r1.2 x hx).1
    obtain ⟨w1,w2⟩:=A4w q' q r2.1 r2.2 hq0
    rcases r3 with ⟨r3,r4⟩ | ⟨r4,r5,_⟩
    ·cases r3
     simp only [if_true,Bool.false_eq_true,if_false];omega
    ·have:=w2 r4
     rw [r5]
     simp only [if_true];omega
  ·rw [if_neg hc]
   have hc:c=false:=by simpa using hc
   exact .inr ⟨_,rfl,⟨hm.1,hk hc⟩,hm.2.1,hm.2.2⟩) (s:=(true,false,p)) ⟨Ank hp,fun hh=>by cases hh⟩
 rw [ht]
 exact ⟨t.1,t.2,rfl,hpost⟩
theorem Z3 {n:Nat} (hn:n≤1000):Fb (n:Int)=some (Ce n):=by
 have hL:=Bn
 have hul:=(Ac4 n).1
 unfold Fb
 rw [Ae (by omega)]
 obtain ⟨t,e,h1,h2⟩:=K8 (body:=Ds (n:Int)) n (fun i q=>q.length=n ∧ ∀j,j<i→nth q j=(j:Int)) (fun i q hi hq=>by
  unfold Ds
  dsimp only
  have:=hq.1
  rw [tna0,if_pos (by omega),Ae (by omega),Ae (by unfold InI;omega),tna0]
  refine ⟨_,rfl,by rw [List.length_set];exact hq.1,fun j hj=> ?_⟩
  rw [E4 _ _ _ _ (by omega)]
  by_cases hij:i=j
  ·rw [if_pos hij,hij]
  ·rw [if_neg hij];exact hq.2 j (by omega)) (fun q _=>by
  unfold Ds
  dsimp only
  rw [tna0,if_neg (by omega)]) (List.replicate (n:Int).toNat 0) ⟨by simp,fun j hj=>by omega⟩
 rw [e]
 simp only [obs0]
 congr 1
 refine Lm (by omega) fun i hi=> ?_
 rw [h2 i (by omega),N3 (by omega)]
def Aed (a:SAlgebra) (n:Nat) (ps:List (Int×Int)) (r:List Int):Prop:=Gq a n r∧(∀z∈ps,nth r z.1.toNat=nth r z.2.toNat) ∧ ∀s,Gq a n s→(∀z∈ps,nth s z.1.toNat=nth s z.2.toNat)→Bs n r s
theorem Aed.uniq {ps:List (Int×Int)} {r r':List Int} (h:Aed a n ps r) (h':Aed a n ps r'):r=r':=
 Mt h.1.1 h'.1.1 (h.2.2 r' h'.1 h'.2.1) (h'.2.2 r h.1 h.2.1)
theorem Atd (_ga:Cf a) {x y:Nat} (hx:x<n) (hy:y<n) {r:List Int}:Aed a n [((x:Int),(y:Int))] r↔Df a n x y r:=by
 constructor
 ·rintro ⟨h1,h2,h3⟩
  have h2:=h2 _ (List.mem_singleton.2 rfl)
  rw [tna0,tna0] at h2
  refine ⟨h1,?_,fun s hs hf=>h3 s hs fun z hz=> ?_⟩
  ·rw [←Y1 hx hy]
   exact Qh (E5 n) hx hy (Gs r) h2
  ·rw [List.mem_singleton.1 hz,tna0,tna0]
   have h4:=Yz (E5 n) hx hy
   rw [Y1 hx hy] at h4
   exact hf.rel hx hy h4
 ·intro h
  refine ⟨h.1,fun z hz=> ?_,fun s hs hz=> ?_⟩
  ·rw [List.mem_singleton.1 hz,tna0,tna0]
   exact Df.rel hx hy h
  ·have:=hz _ (List.mem_singleton.2 rfl)
   rw [tna0,tna0] at this
   exact Df.le hx hy h hs this
def Azi (n:Nat) (ps:List (Int×Int)) (i:Nat) (q:List Int):Prop:=Bz n q∧(∀j,j<i→nth q (nth ps j).1.toNat=nth q (nth ps j).2.toNat) ∧ ∀s,Bz n s→(∀j,j<i→nth s (nth ps j).1.toNat=nth s (nth ps j).2.toNat)→Bs n q s
def Aou (n:Nat) (ps:List (Int×Int)):Prop := ∀z∈ps,(0≤z.1∧z.1<n)∧(0≤z.2∧z.2<n)
theorem Ax5 (n:Nat) (ps:List (Int×Int)):Azi n ps 0 (Ce n):=⟨E5 n,fun j hj=>by omega,fun s _ _=>Gs s⟩
theorem Axa {ps:List (Int×Int)} {i:Nat} {q:List Int} (h:Azi n ps i q) (hi:i<ps.length) (hps:Aou n ps):Azi n ps (i+1) (mg q (nth q (nth ps i).1.toNat) (nth q (nth ps i).2.toNat)):=by
 obtain ⟨h1,h2,h3⟩:=h
 have hz:=hps _ (Ak hi)
 have hx:(nth ps i).1.toNat<n:=by omega
 have hy:(nth ps i).2.toNat<n:=by omega
 refine ⟨Pz h1 hx hy,fun j hj=> ?_,fun s hs hh=>Qh h1 hx hy (h3 s hs fun j hj=>hh j (by omega)) (hh i (by omega))⟩
 rcases Nat.lt_or_ge j i with hl | hl
 ·have hzj:=hps _ (Ak (show j<ps.length by omega))
  exact (Vp h1 hx hy).rel (by omega) (by omega) (h2 j hl)
 ·have:j=i:=by omega
  subst this
  exact Yz h1 hx hy
theorem A4f {ps:List (Int×Int)} {q r:List Int} (hps:Aou n ps) (h:Azi n ps ps.length q) (hr:Xy a n q r):Aed a n ps r:=by
 obtain ⟨h1,h2,h3⟩:=h
 refine ⟨hr.1,fun z hz=> ?_,fun s hs hh=>hr.2.2 s hs (h3 s hs.1 fun j hj=>hh _ (Ak hj))⟩
 obtain ⟨j,hj,rfl⟩:=G6.1 hz
 have hzj:=hps _ (Ak hj)
 exact hr.2.1.rel (by omega) (by omega) (h2 j hj)
theorem Agp (ga:Cf a) (hn:a.Size=n) {ps:List (Int×Int)} (hl:ps.length≤1000) (hps:Aou n ps) : ∃r,Fo a ps=some r∧Aed a n ps r:=by
 have h8:=ga.2.1
 unfold Fo
 rw [hn,Z3 (by omega)]
 simp only [obs0]
 obtain ⟨q,e,hq⟩:=K8 (body:=C5 a ps) ps.length (Azi n ps) (fun i q hi hq=>by
  have hz:=hps _ (Ak hi)
  have hql:=hq.1.1
  unfold C5
  dsimp only
  rw [if_pos (by omega),Ae (by omega),tna0,Ahz (by omega) (by omega) (by omega)]
  simp only [obs0]
  rw [Ae (by unfold InI;omega)]
  exact ⟨_,rfl,Axa hq hi hps⟩) (fun q _=>by
  unfold C5
  dsimp only
  rw [if_neg (by omega)]) (Ce n) (Ax5 n ps)
 rw [e]
 simp only [obs0]
 obtain ⟨b,r,e2,hr⟩:=Acv ga hn hq.1
 rw [e2]
 exact ⟨r,rfl,A4f hps hq hr⟩
theorem A3d {p q:List Int} (h8:n≤1000) (hp:Bz n p) (hq:Bz n q) : ∃r,N8 p q=some r∧Iz n p q r:=by
 have hpl:=hp.1
 have hql:=hq.1
 unfold N8
 rw [Aqs (by rw [Bn];omega)]
 simp only [obs0]
 obtain ⟨t,e1,w1,w2,w3,w4⟩:=K8 (body:=G9 q) n (fun k w=>Bz n w∧Bs n p w∧(∀x,x<k→nth w (nth q x).toNat=nth w x) ∧ ∀s,Bz n s→Bs n p s→Bs n q s→Bs n w s) (fun i w hi hw=>by
  obtain ⟨w1,w2,w3,w4⟩:=hw
  have hwl:=w1.1
  have hqi:=hq.2 i hi
  have hqn:(nth q i).toNat<n:=by omega
  unfold G9
  dsimp only
  rw [if_pos (by omega),Ae (by omega),tna0,Ahz (by omega) (by omega) (by omega),tna0]
  simp only [obs0]
  rw [Ae (by unfold InI;omega)]
  refine ⟨_,rfl,Pz w1 hi hqn,w2.trans hp (Vp w1 hi hqn),fun x hx=> ?_,fun s hs h1 h2=>Qh w1 hi hqn (w4 s hs h1 h2) (h2 i hi).symm⟩
  rcases Nat.lt_or_ge x i with h | h
  ·have hqx:=hq.2 x (by omega)
   exact (Vp w1 hi hqn).rel (by omega) (by omega) (w3 x h)
  ·have:x=i:=by omega
   subst this
   exact (Yz w1 hi hqn).symm) (fun w _=>by
  unfold G9
  dsimp only
  rw [if_neg (by omega)]) p ⟨hp,Nf hp,fun x hx=>by omega,fun s _ h _=>h⟩
 rw [e1]
 exact ⟨t,rfl,w1,w2,w3,w4⟩
end
end Go.Proofs.YtjcekpmojnnmbaaGreat.Ax
namespace Go.Proofs.YtjcekpmojnnmbaaGreat.Ax
open Go Classical
def bT (p q:List Int):Prop:=blk q<blk p∨(blk p=blk q∧tLt p q)
theorem Am4 (a:List Int):¬bT a a:=fun h=>h.elim (fun h=>by omega) fun h=>At0 a h.2
theorem Aiv {a b c:List Int} (h1:bT a b) (h2:bT b c):bT a c:=by
 rcases h1 with h1 | ⟨e1,l1⟩
 ·rcases h2 with h2 | ⟨e2,_⟩
  ·exact .inl (by omega)
  ·exact .inl (by omega)
 ·rcases h2 with h2 | ⟨e2,l2⟩
  ·exact .inl (by omega)
  ·exact .inr ⟨by omega,Ayn l1 l2⟩
theorem Aum (a b:List Int):bT a b∨a=b∨bT b a:=by
 rcases Nat.lt_trichotomy (blk a) (blk b) with h | h | h
 ·exact .inr (.inr (.inl h))
 ·rcases A2d a b with h1 | h1 | h1
  ·exact .inl (.inr ⟨h,h1⟩)
  ·exact .inr (.inl h1)
  ·exact .inr (.inr (.inr ⟨h.symm,h1⟩))
 ·exact .inl (.inl h)
noncomputable def Azo (a b:List Int):Bool:=decide (bT a b)
theorem At3:Go.Sort.SWO Azo where
 irrefl x:=dfa0 (Am4 x)
 trans x y z h1 h2:=dtr0 (Aiv (of_decide_eq_true h1) (of_decide_eq_true h2))
 ntrans x y z h1 h2:=by
  have h1:=of_decide_eq_false h1
  have h2:=of_decide_eq_false h2
  refine dfa0 fun h=> ?_
  rcases Aum x y with c | c | c
  ·exact h1 c
  ·subst c;exact h2 h
  ·rcases Aum y z with c2 | c2 | c2
   ·exact h2 c2
   ·subst c2;exact h1 h
   ·exact Am4 _ (Aiv (Aiv h c2) c)
theorem Azt (x y:List Int) (h1:Azo x y=false) (h2:Azo y x=false):x=y:=by
 rcases Aum x y with c | c | c
 ·exact absurd c (of_decide_eq_false h1)
 ·exact c
 ·exact absurd c (of_decide_eq_false h2)
theorem A0u {p q:List Int} (h:p.length=q.length):bT p q↔bLt p q:=by
 unfold bT bLt tLt
 constructor
 ·rintro (h1 | ⟨h1,h2 | h2⟩)
  ·exact .inl h1
  ·omega
  ·exact .inr ⟨h1,h2.2⟩
 ·rintro (h1 | ⟨h1,h2⟩)
  ·exact .inl h1
  ·exact .inr ⟨h1,.inr ⟨h,h2⟩⟩
theorem Auc {p q:List Int} (h:p.length=q.length) (hl:p.length≤1000) : ∃c,Bt p q=some c∧(c<0↔bLt p q):=by
 have hL:=Bn
 have b1:=Az6 p
 have b2:=Az6 q
 unfold Bt
 rw [Ads (by omega),Ads (by omega)]
 simp only [obs0]
 have e1:(Ct q.length fun i=>decide (nth q i=(i:Int))).length=blk q:=rfl
 have e2:(Ct p.length fun i=>decide (nth p i=(i:Int))).length=blk p:=rfl
 rw [e1,e2,Ae (by unfold InI;omega)]
 by_cases hb:((blk q:Int)-(blk p:Int))≠0
 ·rw [if_pos hb]
  refine ⟨_,rfl,fun hc=> .inl (by omega),fun hc=> ?_⟩
  rcases hc with hc | ⟨hc,_⟩<;>omega
 ·rw [if_neg hb]
  obtain ⟨c,e,hc⟩:=Ajb (a:=p) (b:=q) h (by omega)
  rw [e]
  refine ⟨c,rfl,?_⟩
  constructor
  ·intro hh;exact .inr ⟨by omega,hc.1 (by omega)⟩
  ·rintro (hh | ⟨_,hh⟩)
   ·omega
   ·have:=hc.2 hh;omega
section
variable {a:SAlgebra} {n:Nat}
def O4 (a:SAlgebra) (n:Nat) (O:List (List Int)):Prop:=Uh n O ∧ ∀r,r∈O↔Gq a n r
theorem Am9 {n:Nat} {t:List Int} (h8:n≤8) (ht:Bz n t) : ∀x∈t,0≤x∧x<65536:=fun x hx=>by
 have:=ht.inS x hx;omega
theorem A26 (ga:Cf a) (hn:a.Size=n) : ∃t:Unit ⊕ List (List Int),(Cb a=(match t with
  | (.inl _)=>(some (Aw (List Int),false))
  | (.inr q25_7)=>((Gl (q25_7) (fun w_0 w_1=>Bt w_0 w_1)).bind fun (_,u27)=>
    some (u27,true)):Option ((List (List Int))×Bool)))∧(match t with
  | (.inl (_:Unit)) => ∃L:List (List Int),L.Nodup∧(∀r∈L,Gq a n r)∧200<L.length
  | (.inr (L:List (List Int)))=>L.Nodup∧L.length≤200 ∧ ∀r,r∈L↔Gq a n r):=by
 have hLim:=Bn
 have h8:=ga.2.1
 have h1:=ga.1
 have hu:=E5 n
 have hcu:=T8 ga hn
 unfold Cb
 have l1 : ∀x,x<n → ∀L:List (List Int),L.length≤8*x→(∀c,c∈L ↔ ∃u v,u<x∧u<v∧v<n∧Df a n u v c) → ∃M,Al (Ci a (x:Int)) ((x:Int)+1,L)=some M∧M.length≤8*(x+1) ∧ ∀c,c∈M ↔ ∃u v,u<x+1∧u<v∧v<n∧Df a n u v c:=by
  intro x hx L hL hr
  obtain ⟨M,e,q2,q3⟩:=C8 (body:=Ci a (x:Int)) (fun s => ∃i:Nat,s.1=(i:Int)∧x<i∧i≤n∧s.2.length≤8*x+i ∧ ∀c,c∈s.2↔(∃u v,u<x∧u<v∧v<n∧Df a n u v c) ∨ ∃v,x<v∧v<i∧Df a n x v c) (fun s=>n-s.1.toNat) (fun M=>M.length≤8*(x+1) ∧ ∀c,c∈M ↔ ∃u v,u<x+1∧u<v∧v<n∧Df a n u v c) (by
   rintro ⟨y,M⟩ ⟨i,rfl,g0,g1,g2,g4⟩
   dsimp only at g2 g4
   unfold Ci
   dsimp only
   by_cases hi:i<n
   ·obtain ⟨t,e,ht⟩:=Agp ga hn (ps:=[((x:Int),(i:Int))]) (by simp) (fun z hz=>by rw [List.mem_singleton.1 hz];dsimp only;omega)
    rw [Atd ga hx hi] at ht
    rw [if_pos (by omega),e]
    simp only [obs0]
    rw [Ae (by simp;omega),Ae (by unfold InI;omega)]
    refine .inl ⟨_,rfl,⟨i+1,rfl,by omega,hi,by simp;omega,fun c=> ?_⟩,by dsimp only;omega⟩
    dsimp only
    rw [List.mem_append,List.mem_singleton,g4]
    constructor
    ·rintro ((h | ⟨v,h0,hv,h⟩) | h)
     ·exact .inl h
     ·exact .inr ⟨v,h0,by omega,h⟩
     ·exact .inr ⟨i,by omega,by omega,h▸ht⟩
    ·rintro (h | ⟨v,h0,hv,h⟩)
     ·exact .inl (.inl h)
     ·by_cases hvi:v<i
      ·exact .inl (.inr ⟨v,h0,hvi,h⟩)
      ·have:v=i:=by omega
       subst this
       exact .inr (Aga h ht)
   ·rw [if_neg (by omega)]
    have:i=n:=by omega
    subst this
    refine .inr ⟨_,rfl,by omega,fun c=> ?_⟩
    rw [g4]
    constructor
    ·rintro (⟨u,v,hu,hv,hvn,h⟩ | ⟨v,h0,hv,h⟩)
     ·exact ⟨u,v,by omega,hv,hvn,h⟩
     ·exact ⟨x,v,by omega,h0,hv,h⟩
    ·rintro ⟨u,v,hu,hv,hvn,h⟩
     by_cases hui:u<x
     ·exact .inl ⟨u,v,hui,hv,hvn,h⟩
     ·have:u=x:=by omega
      subst this
      exact .inr ⟨v,hv,hvn,h⟩) (s:=((x:Int)+1,L)) ⟨x+1,by dsimp only;omega,by omega,by omega,by dsimp only;omega,fun c=>by
    dsimp only
    rw [hr]
    exact ⟨.inl,fun h=>h.elim id fun ⟨v,h0,hv,_⟩=>by omega⟩⟩
  exact ⟨M,e,q2,q3⟩
 obtain ⟨P,e1,hPl,hP⟩:=C8 (body:=De a) (fun s => ∃i:Nat,s.1=(i:Int)∧i≤n∧s.2.length≤8*i ∧ ∀c,c∈s.2 ↔ ∃u v,u<i∧u<v∧v<n∧Df a n u v c) (fun s=>n-s.1.toNat) (fun M=>M.length≤64 ∧ ∀c,c∈M ↔ ∃u v,u<n∧u<v∧v<n∧Df a n u v c) (by
  rintro ⟨y,M⟩ ⟨i,rfl,g1,g3,g4⟩
  dsimp only at g3 g4
  unfold De
  dsimp only
  by_cases hi:i<n
  ·obtain ⟨M',e,q2,q3⟩:=l1 i hi M g3 g4
   rw [if_pos (by omega),Ae (by unfold InI;omega),e]
   simp only [obs0]
   rw [Ae (by unfold InI;omega)]
   exact .inl ⟨_,rfl,⟨i+1,rfl,hi,q2,q3⟩,by dsimp only;omega⟩
  ·rw [if_neg (by omega)]
   have:i=n:=by omega
   subst this
   exact .inr ⟨_,rfl,by omega,g4⟩) (s:=((0:Int),Aw (List Int))) ⟨0,rfl,Nat.zero_le _,by simp [Aw],fun c=>by
   dsimp only
   exact ⟨fun h=>by simp [Aw] at h,fun ⟨u,v,hu,_⟩=>by omega⟩⟩
 rw [e1]
 simp only [obs0]
 rw [hn,Z3 (by omega)]
 simp only [obs0]
 have hul:=hu.1
 rw [Ae (by simp),show nth [Ce n] (Int.toNat 0)=Ce n from rfl,Au8 (by omega)]
 simp only [obs0]
 have pr : ∀k,k<P.length → ∃u v,u<n∧v<n∧Df a n u v (nth P k):=fun k hk=>by
  obtain ⟨u,v,h1,h2,h3,h4⟩:=(hP _).1 (Ak hk)
  exact ⟨u,v,h1,h3,h4⟩
 have hset : ∀ {S:List (ByteArray×Bool)} {W:List (List Int)} {t:List Int},Ary S W→(∀r∈W,Gq a n r)→Gq a n t→((Fu S (Ar3 t)).getD false=true↔t∈W):=by
  intro S W t hS hW ht
  rw [hS,decide_eq_true_eq]
  constructor
  ·rintro ⟨z,hz,e⟩
   rw [←Ay4 (Am9 (by omega) (hW z hz).1) (Am9 (by omega) ht.1) e]
   exact hz
  ·intro h;exact ⟨t,h,rfl⟩
 have l3 : ∀x (S:List (ByteArray×Bool)) (W:List (List Int)),x<W.length→Ary S W→W.Nodup→W.length≤200→(∀r∈W,Gq a n r) →
   ∃t,Al (Cm P (x:Int)) (0,S,W)=some t∧(match t with
     | .inl _ => ∃L:List (List Int),L.Nodup∧(∀r∈L,Gq a n r)∧200<L.length
     | .inr (S',W')=>(∃X,W'=W++X)∧Ary S' W'∧W'.Nodup∧W'.length≤200∧(∀r∈W',Gq a n r) ∧ ∀k,k<P.length → ∀j,Iz n (nth W x) (nth P k) j→j∈W'):=by
  intro x S W hx hS hd hl hcg
  refine C8 (body:=Cm P (x:Int)) (fun s => ∃i:Nat,s.1=(i:Int)∧i≤P.length∧(∃X,s.2.2=W++X)∧Ary s.2.1 s.2.2∧s.2.2.Nodup∧s.2.2.length≤200∧(∀r∈s.2.2,Gq a n r) ∧ ∀k,k<i → ∀j,Iz n (nth W x) (nth P k) j→j∈s.2.2) (fun s=>P.length-s.1.toNat) _ (by
   rintro ⟨y,S',W'⟩ ⟨i,rfl,g1,⟨X,hX⟩,g3,g4,g5,g6,g7⟩
   dsimp only at hX g3 g4 g5 g6 g7
   unfold Cm
   dsimp only
   by_cases hi:i<P.length
   ·have hWx:nth W' x=nth W x:=by
     rw [hX,C2 (by simp;omega),C2 hx,List.getElem_append_left hx]
    have hx':x<W'.length:=by rw [hX];simp;omega
    have hcx:=g6 _ (Ak hx')
    obtain ⟨u,v,hu',hv',hpk⟩:=pr i hi
    obtain ⟨t,e,ht⟩:=A3d (by omega) hcx.1 hpk.1.1
    have hct:=Amq ga hn hcx hpk.1 ht
    have htl:=hct.1.1
    rw [if_pos (by omega),Ae (by omega),Ae (by omega),tna0,tna0,e]
    simp only [obs0]
    rw [Au8 (by omega)]
    simp only [obs0]
    have done : ∀M:List (List Int),(∀z,z∈W'∨z=t→z∈M) → ∀k,k<i+1 → ∀j,Iz n (nth W x) (nth P k) j→j∈M:=fun M hM k hk j hj=>by
     rcases Nat.lt_or_ge k i with h | h
     ·exact hM j (.inl (g7 k h j hj))
     ·have:k=i:=by omega
      subst this
      rw [hWx] at ht
      exact hM j (.inr (hj.uniq ht))
    by_cases hin:t∈W'
    ·rw [if_pos ((hset g3 g6 hct).2 hin),if_neg (by omega),Ae (by unfold InI;omega)]
     exact .inl ⟨_,rfl,⟨i+1,rfl,hi,⟨X,hX⟩,g3,g4,g5,g6,done _ fun z h=>h.elim id fun h=>h▸hin⟩,by dsimp only;omega⟩
    ·rw [if_neg (fun hh=>hin ((hset g3 g6 hct).1 hh)),Ae (by simp;omega)]
     have hnd:(W'++[t]).Nodup:=by
      rw [List.nodup_append]
      refine ⟨g4,by simp,fun z hz y hy e=> ?_⟩
      rw [List.mem_singleton.1 hy] at e
      exact hin (e▸hz)
     have hcg' : ∀r∈W'++[t],Gq a n r:=fun r hr=>by
      rcases List.mem_append.1 hr with h | h
      ·exact g6 r h
      ·rw [List.mem_singleton.1 h];exact hct
     by_cases hbig:((W'++[t]).length:Int)>200
     ·rw [if_pos hbig]
      exact .inr ⟨_,rfl,W'++[t],hnd,hcg',by omega⟩
     ·rw [if_neg hbig,Ae (by unfold InI;omega)]
      exact .inl ⟨_,rfl,⟨i+1,rfl,hi,⟨X++[t],by dsimp only;rw [hX,List.append_assoc]⟩,Am1 g3 t,hnd,by dsimp only;omega,hcg',done _ fun z h=>List.mem_append.2 (h.imp id fun h=>List.mem_singleton.2 h)⟩,by dsimp only;omega⟩
   ·rw [if_neg (by omega)]
    have:i=P.length:=by omega
    subst this
    exact .inr ⟨_,rfl,⟨X,hX⟩,g3,g4,g5,g6,g7⟩) (s:=((0:Int),S,W)) ⟨0,rfl,Nat.zero_le _,⟨[],by simp⟩,hS,hd,hl,hcg,fun k hk=>by omega⟩
 obtain ⟨t,e2,h⟩:=C8 (body:=Dg P) (fun s => ∃i:Nat,s.1=(i:Int)∧i≤s.2.2.length∧Ary s.2.1 s.2.2∧s.2.2.Nodup∧s.2.2.length≤200∧(∀r∈s.2.2,Gq a n r)∧Ce n∈s.2.2 ∧ ∀x,x<i → ∀k,k<P.length → ∀j,Iz n (nth s.2.2 x) (nth P k) j→j∈s.2.2) (fun s=>201-s.1.toNat) (fun t=>match t with
  | (.inl (_:Unit)) => ∃L:List (List Int),L.Nodup∧(∀r∈L,Gq a n r)∧200<L.length
  | (.inr (L:List (List Int)))=>L.Nodup∧L.length≤200 ∧ ∀r,r∈L↔Gq a n r) (by
  rintro ⟨y,S,W⟩ ⟨i,rfl,g1,g2,g3,g4,g5,g6,g7⟩
  dsimp only at g1 g2 g3 g4 g5 g6 g7
  unfold Dg
  dsimp only
  by_cases hi:i<W.length
  ·obtain ⟨t,e,ht⟩:=l3 i S W hi g2 g3 g4 g5
   rw [if_pos (by omega),e]
   simp only [obs0]
   cases t with
   | inl u=>exact .inr ⟨_,rfl,ht⟩
   | inr SW=>
     obtain ⟨S',W'⟩:=SW
     obtain ⟨⟨X,hX⟩,q2,q3,q4,q5,q6⟩:=ht
     dsimp only
     rw [Ae (by unfold InI;omega)]
     have hsub : ∀z,z∈W→z∈W':=fun z hz=>by rw [hX];exact List.mem_append.2 (.inl hz)
     refine .inl ⟨_,rfl,⟨i+1,rfl,by dsimp only;rw [hX];simp;omega,q2,q3,q4,q5,hsub _ g6,fun x hx k hk j hj=> ?_⟩,by dsimp only;omega⟩
     dsimp only at hj ⊢
     have hWx:nth W' x=nth W x:=by
      rw [hX,C2 (by simp;omega),C2 (by omega),List.getElem_append_left (by omega)]
     rw [hWx] at hj
     rcases Nat.lt_or_ge x i with h | h
     ·exact hsub j (g7 x h k hk j hj)
     ·have:x=i:=by omega
      subst this
      exact q6 k hk j hj
  ·rw [if_neg (by omega)]
   have hiW:i=W.length:=by omega
   refine .inr ⟨_,rfl,g3,g4,fun r=>⟨fun hr=>g5 r hr,fun hr=>Aim ga hn g5 g6 (fun m hm u v hu hv c j hc hj=> ?_) hr⟩⟩
   obtain ⟨x,hx,ex⟩:=G6.1 hm
   obtain ⟨k,hk,ek⟩:=G6.1 ((hP c).2 ⟨v,u,by omega,hv,hu,hc.symm⟩)
   exact g7 x (by omega) k hk j (by rw [ex,ek];exact hj)) (s:=((0:Int),Jx (Aw (ByteArray×Bool)) (Ar3 (Ce n)) true,[Ce n])) ⟨0,rfl,by simp,Am1 A0n (Ce n),by simp,by simp,fun r hr=>by rw [List.mem_singleton.1 hr];exact hcu,by simp,fun x hx=>by omega⟩
 refine ⟨t,?_,h⟩
 rw [e2]
 rfl
theorem Au3 (ga:Cf a) (hn:a.Size=n):(∃O,O4 a n O∧O.length≤200∧Cb a=some (O,true)∧Cj a 200=some O∧Cj a 5000=some O) ∨
  (Cb a=some (Aw (List Int),false) ∧ ∃O,Cj a 200=some O∧200<O.length):=by
 have h8:=ga.2.1
 obtain ⟨O,eO,hO⟩:=Amv ga hn (most:=200) (by omega)
 obtain ⟨O2,eO2,hO2⟩:=Amv ga hn (most:=5000) (by omega)
 have eO':Cj a 200=some O:=eO
 have eO2':Cj a 5000=some O2:=eO2
 obtain ⟨t,e,ht⟩:=A26 ga hn
 by_cases hf:O.length≤200
 ·have hOc:O4 a n O:=⟨hO.srt,fun r=>⟨hO.cg r,hO.all hf r⟩⟩
  have hle:O2.length≤O.length:=Za hO2.srt.nodup fun r hr=>(hOc.2 r).2 (hO2.cg r hr)
  have e12:O2=O:=Ay2 hO2.srt hO.srt fun z=>⟨fun hz=>(hOc.2 z).2 (hO2.cg z hz),fun hz=>hO2.all (by omega) z (hO.cg z hz)⟩
  refine .inl ⟨O,hOc,hf,?_,eO',by rw [eO2',e12]⟩
  rw [e]
  cases t with
  | inl u=>
    obtain ⟨L,h1,h2,h3⟩:=ht
    have:=Za h1 fun r hr=>(hOc.2 r).2 (h2 r hr)
    omega
  | inr L=>
    obtain ⟨h1,h2,h3⟩:=ht
    have hrl : ∀r∈L,r.length=n:=fun r hr=>((h3 r).1 hr).1.1
    have hperm:O.Perm L:=(List.perm_ext_iff_of_nodup hO.srt.nodup h1).2 fun r=>by rw [h3,hOc.2]
    have hsort:=Ar9 (rows:=L) (ys:=O) (order:=fun w_0 w_1=>Bt w_0 w_1) Azo At3 Azt (by omega) (fun x hx y hy=>by
     obtain ⟨c,ec,hc⟩:=Auc (p:=x) (q:=y) (by rw [hrl x hx,hrl y hy]) (by rw [hrl x hx];omega)
     refine ⟨c,ec,?_⟩
     unfold Azo
     rw [decide_eq_decide,A0u (by rw [hrl x hx,hrl y hy])]
     exact hc.symm) hperm (hO.srt.1.imp_of_mem fun {x y} hx hy h=>dfa0 fun hh=>by
      have hxl:=hO.srt.2 x hx
      have hyl:=hO.srt.2 y hy
      exact Xx (by omega) h ((A0u (by omega)).1 hh))
    dsimp only
    rw [hsort]
    rfl
 ·refine .inr ⟨?_,O,eO',by omega⟩
  rw [e]
  cases t with
  | inl u=>rfl
  | inr L=>
    obtain ⟨h1,h2,h3⟩:=ht
    have:=Za hO.srt.nodup fun r hr=>(h3 r).2 (hO.cg r hr)
    omega
end
end Go.Proofs.YtjcekpmojnnmbaaGreat.Ax
namespace Go.Proofs.YtjcekpmojnnmbaaGreat.Ax
open Go Classical
section
variable {n:Nat} {p q:List Int}
theorem Acr (hp:okP n p) (hq:okP n q) (h8:n≤1000):Gu p q=some (decide (Bs n p q)):=by
 have e1:=hp.1
 have e2:=hq.1
 unfold Gu
 have hin : ∀i,i<p.length→0≤nth p i∧nth p i<n:=fun i hi=>hp.2 _ (Ak hi)
 have:=H5 (body:=Fd p q) (fun i=>(i:Int)) p.length (fun i=>¬nth q (nth p i).toNat=nth q i) () () (fun i hi hb=>by
  have h:=hin i hi
  unfold Fd
  rw [if_pos (by omega),Ae (by omega),tna0,Ae (by omega),Ae (by omega),if_neg (by simpa using hb),Ae (by unfold InI;omega)];rfl) (fun i hi hb=>by
  have h:=hin i hi
  unfold Fd
  rw [if_pos (by omega),Ae (by omega),tna0,Ae (by omega),Ae (by omega),if_pos (by simpa using hb)]) (by unfold Fd;rw [if_neg (by omega)]) 0 (by omega)
 refine (Na this false true).trans (congrArg some (Vg ?_))
 rw [J4,e1]
 exact Iff.rfl
theorem Rc (hp:okP n p) (hq:okP n q) (h8:n≤1000):Ez p q=some (decide (Bs n p q)):=by
 have e1:=hp.1
 have e2:=hq.1
 unfold Ez
 have hin : ∀i,i<p.length→0≤nth p i∧nth p i<n:=fun i hi=>hp.2 _ (Ak hi)
 have:=H5 (body:=D5 p q) (fun i=>(i:Int)) p.length (fun i=>¬nth q (nth p i).toNat=nth q i) () () (fun i hi hb=>by
  have h:=hin i hi
  unfold D5
  rw [if_pos (by omega),Ae (by omega),tna0,Ae (by omega),Ae (by omega),if_neg (by simpa using hb),Ae (by unfold InI;omega)];rfl) (fun i hi hb=>by
  have h:=hin i hi
  unfold D5
  rw [if_pos (by omega),Ae (by omega),tna0,Ae (by omega),Ae (by omega),if_pos (by simpa using hb)]) (by unfold D5;rw [if_neg (by omega)]) 0 (by omega)
 refine (Na this false true).trans (congrArg some (Vg ?_))
 rw [J4,e1]
 exact Iff.rfl
def Alp (n:Nat) (O:List (List Int)) (p r:List Int):Prop:=Bs n p r∧p≠r ∧ ∀k∈O,Bs n p k→Bs n k r→k=p∨k=r
noncomputable def Jn (n:Nat) (O:List (List Int)) (p:List Int):List (List Int):=O.filter fun r=>decide (Alp n O p r)
section
variable {O:List (List Int)} (hO : ∀r∈O,okP n r) (hl:O.length≤1000) (hp:okP n p) (h8:n≤1000)
include hO hl hp h8
theorem Af2:Gk O p=some (Jn n O p):=by
 have hL:=Bn
 have hpl:=hp.1
 unfold Gk
 rw [Afw (body:=Em O p) O (fun r=>decide (Alp n O p r)) (fun i acc hi ha=>by
  have hri:=hO _ (Ak hi)
  unfold Em
  dsimp only
  rw [if_pos (by omega),Ae (by omega),tna0,Rc hp hri h8,Adz (by omega)]
  simp only [obs0]
  have near:(if decide (Bs n p (nth O i))=true then ask (0≤(i:Int)∧(i:Int)<(O.length:Int))<|some !decide (p=nth O i) else some false:Option Bool)=some (decide (Bs n p (nth O i)∧p≠nth O i)):=by
   by_cases h1:Bs n p (nth O i)
   ·rw [dtr0 h1,if_pos rfl,Ae (by omega)]
    by_cases h2:p=nth O i
    ·rw [dtr0 h2,dfa0 (fun hh=>hh.2 h2)];rfl
    ·rw [dfa0 h2,dtr0 ⟨h1,h2⟩];rfl
   ·rw [dfa0 h1,if_neg Bool.false_ne_true,dfa0 (fun hh=>h1 hh.1)]
  rw [near]
  simp only [obs0]
  obtain ⟨t,e,ht⟩:=C8 (body:=F6 O p (i:Int) acc) (fun s => ∃k:Nat,s.1=(k:Int)∧k≤O.length∧s.2=decide ((Bs n p (nth O i)∧p≠nth O i) ∧ ∀j,j<k→Bs n p (nth O j)→Bs n (nth O j) (nth O i)→nth O j=p∨nth O j=nth O i)) (fun s=>O.length-s.1.toNat) (fun t=>t=decide (Alp n O p (nth O i))) (by
   rintro ⟨x,b⟩ ⟨k,rfl,g1,g2⟩
   dsimp only at g2
   unfold F6
   dsimp only
   by_cases hk:k<O.length
   ·rw [if_pos (by omega)]
    by_cases hb:b=true
    ·rw [if_pos hb]
     simp only [obs0]
     rw [hb] at g2
     have g2':=of_decide_eq_true g2.symm
     have hrk:=hO _ (Ak hk)
     have hkl:=hrk.1
     have good:(Bs n p (nth O k)→Bs n (nth O k) (nth O i)→nth O k=p∨nth O k=nth O i)→b=decide ((Bs n p (nth O i)∧p≠nth O i) ∧ ∀j,j<k+1→Bs n p (nth O j)→Bs n (nth O j) (nth O i)→nth O j=p∨nth O j=nth O i):=fun hg=>by
      rw [hb]
      refine (dtr0 ⟨g2'.1,fun j hj=> ?_⟩).symm
      rcases Nat.lt_or_ge j k with h | h
      ·exact g2'.2 j h
      ·have:j=k:=by omega
       subst this;exact hg
     rw [Ae (by omega),tna0,Rc hp hrk h8]
     simp only [obs0]
     by_cases c1:Bs n p (nth O k)
     ·rw [dtr0 c1,if_pos rfl,Ae (by omega),Ae (by omega),tna0,Rc hrk hri h8]
      simp only [obs0]
      by_cases c2:Bs n (nth O k) (nth O i)
      ·rw [dtr0 c2,if_pos rfl,Ae (by omega),Adz (by omega)]
       simp only [obs0]
       by_cases c3:nth O k=p
       ·rw [dtr0 c3,if_pos rfl,Ae (by unfold InI;omega)]
        exact .inl ⟨_,rfl,⟨k+1,rfl,hk,good fun _ _=> .inl c3⟩,by dsimp only;omega⟩
       ·rw [dfa0 c3,if_neg Bool.false_ne_true,Ae (by omega),Ae (by omega),Adz (by omega)]
        simp only [obs0]
        by_cases c4:nth O k=nth O i
        ·rw [dtr0 c4,if_pos rfl,Ae (by unfold InI;omega)]
         exact .inl ⟨_,rfl,⟨k+1,rfl,hk,good fun _ _=> .inr c4⟩,by dsimp only;omega⟩
        ·rw [dfa0 c4,if_neg Bool.false_ne_true,Ae (by unfold InI;omega)]
         refine .inl ⟨_,rfl,⟨k+1,rfl,hk,(dfa0 fun hh=> ?_).symm⟩,by dsimp only;omega⟩
         rcases hh.2 k (by omega) c1 c2 with h | h
         ·exact c3 h
         ·exact c4 h
      ·rw [dfa0 c2,if_neg Bool.false_ne_true,Ae (by unfold InI;omega)]
       exact .inl ⟨_,rfl,⟨k+1,rfl,hk,good fun _ h=>absurd h c2⟩,by dsimp only;omega⟩
     ·rw [dfa0 c1,if_neg Bool.false_ne_true,Ae (by unfold InI;omega)]
      exact .inl ⟨_,rfl,⟨k+1,rfl,hk,good fun h=>absurd h c1⟩,by dsimp only;omega⟩
    ·rw [if_neg hb]
     refine .inr ⟨_,rfl,?_⟩
     have hbf:b=false:=by simpa using hb
     rw [hbf] at g2 ⊢
     refine (dfa0 fun hh=>of_decide_eq_false g2.symm ⟨⟨hh.1,hh.2.1⟩,fun j hj=>hh.2.2 _ (Ak (by omega))⟩).symm
   ·rw [if_neg (by omega)]
    refine .inr ⟨_,rfl,?_⟩
    rw [g2,decide_eq_decide]
    have:k=O.length:=by omega
    subst this
    constructor
    ·rintro ⟨⟨h1,h2⟩,h3⟩
     refine ⟨h1,h2,fun z hz=> ?_⟩
     obtain ⟨j,hj,rfl⟩:=G6.1 hz
     exact h3 j hj
    ·rintro ⟨h1,h2,h3⟩
     exact ⟨⟨h1,h2⟩,fun j hj=>h3 _ (Ak hj)⟩) (s:=((0:Int),decide (Bs n p (nth O i)∧p≠nth O i))) ⟨0,rfl,Nat.zero_le _,by
    dsimp only
    rw [decide_eq_decide]
    exact ⟨fun h=>⟨h,fun j hj=>by omega⟩,fun h=>h.1⟩⟩
  rw [e,ht]
  simp only [obs0]
  by_cases hc:Alp n O p (nth O i)
  ·rw [dtr0 hc,if_pos rfl,Ae (by omega),Ae (by simp;omega),Ae (by unfold InI;omega),if_pos rfl];rfl
  ·rw [dfa0 hc,if_neg Bool.false_ne_true,Ae (by unfold InI;omega),if_neg Bool.false_ne_true];rfl) (fun acc=>by
  unfold Em
  dsimp only
  rw [if_neg (by omega)])]
 rfl
end
end
section
variable {a:SAlgebra} {n:Nat} {O:List (List Int)}
theorem O4.ok (h:O4 a n O) : ∀r∈O,okP n r:=fun r hr=>⟨((h.2 r).1 hr).1.1,((h.2 r).1 hr).1.inS⟩
theorem Azf (h:O4 a n O) {p:List Int} (hp:Gq a n p) : ∀(m:Nat) (q:List Int),Gq a n q→Bs n p q→p≠q→Vf n p-Vf n q≤m → ∃c∈Jn n O p,Bs n c q:=by
 intro m
 induction m with
 | zero=>
   intro q hq hf hne hm
   have:=Yq hp.1 hq.1 hf hne
   omega
 | succ m ih=>
   intro q hq hf hne hm
   by_cases hc:Alp n O p q
   ·exact ⟨q,List.mem_filter.2 ⟨(h.2 q).2 hq,dtr0 hc⟩,Nf hq.1⟩
   ·have : ∃k∈O,Bs n p k∧Bs n k q∧k≠p∧k≠q:=Classical.byContradiction fun hx=>hc ⟨hf,hne,fun k hk g1 g2=>by
     by_cases e1:k=p
     ·exact .inl e1
     ·by_cases e2:k=q
      ·exact .inr e2
      ·exact absurd ⟨k,hk,g1,g2,e1,e2⟩ hx⟩
    obtain ⟨k,hk,g1,g2,e1,e2⟩:=this
    have hkc:=(h.2 k).1 hk
    have c1:=Yq hkc.1 hq.1 g2 e2
    have c2:=Yq hp.1 hkc.1 g1 fun e=>e1 e.symm
    obtain ⟨c,hc,hf2⟩:=ih k hkc g1 (fun e=>e1 e.symm) (by omega)
    have hcc:=(h.2 c).1 (List.mem_filter.1 hc).1
    exact ⟨c,hc,hf2.trans hcc.1 g2⟩
abbrev We (n:Nat):List Int:=List.replicate n 0
theorem Ub {i:Nat} (hi:i<n):nth (We n) i=0:=by
 rw [C2 (by simpa using hi)];simp
theorem Amt (ga:Cf a) (hn:a.Size=n):Gq a n (We n):=by
 have h1:=ga.1
 have hp:Bz n (We n):=⟨by simp,fun i hi=>by rw [Ub hi];exact ⟨Int.le_refl _,by omega,Ub (by simpa using (show 0<n by omega))⟩⟩
 refine ⟨hp,fun o ho e he i hi=> ?_⟩
 obtain ⟨r,r3,hr,hT,hTi,_,hn0,hn8⟩:=opX ga hn ho
 obtain ⟨d,hd,hd2⟩:=Acy hn0 (q:=We n) ⟨hp.1,hp.inS⟩ (r:=r) (i:=i) (by omega) (show e<r by omega)
 unfold Zw
 rw [hd,tna0]
 have y1:=hTi _ (Ak (show i<(nth a.Ops o).Table.length from hi))
 have y2:=hTi _ (Ak (show d<(nth a.Ops o).Table.length by omega))
 rw [Ub (by omega),Ub (by omega)]
theorem A1m {p:List Int} (hp:Bz n p):Bs n p (We n):=fun x hx=>by
 have:=hp.2 x hx
 rw [Ub hx,Ub (by omega)]
theorem Au7 {p q:List Int} (hp:Bz n p) (hq:Bz n q) (h:Bs n p q) (hne:p≠q):bLt p q:=by
 refine .inl ?_
 rw [Avq hp.1,Avq hq.1]
 exact Yq hp hq h hne
theorem Y6 (ga:Cf a) (hn:a.Size=n) (h:O4 a n O) : ∃tl,O=Ce n::tl:=by
 have hc:=T8 ga hn
 have hm:=(h.2 _).2 hc
 match O,h,hm with
 | x::tl,h,hm=>
   by_cases e:x=Ce n
   ·exact ⟨tl,by rw [e]⟩
   ·exfalso
    rcases List.mem_cons.1 hm with h1 | h1
    ·exact e h1.symm
    ·have hx:=(h.2 x).1 (by simp)
     have h2:=(List.pairwise_cons.1 h.1.1).1 _ h1
     have h3:=Au7 hc.1 hx.1 (Gs x) fun e2=>e e2.symm
     exact Xx (by rw [hx.1.1,hc.1.1]) h2 h3
theorem A3g (ga:Cf a) (hn:a.Size=n) (h:O4 a n O) : ∃ini,O=ini++[We n]:=by
 have hc:=Amt ga hn
 have hm:=(h.2 _).2 hc
 rcases List.eq_nil_or_concat O with h0 | ⟨ini,x,hx⟩
 ·rw [h0] at hm;cases hm
 ·rw [List.concat_eq_append] at hx
  by_cases e:x=We n
  ·exact ⟨ini,by rw [hx,e]⟩
  ·exfalso
   subst hx
   rcases List.mem_append.1 hm with h1 | h1
   ·have hxc:=(h.2 x).1 (by simp)
    have h2:=(List.pairwise_append.1 h.1.1).2.2 _ h1 x (by simp)
    have h3:=Au7 hxc.1 hc.1 (A1m hxc.1) e
    exact Xx (by rw [hxc.1.1,hc.1.1]) h2 h3
   ·exact e (List.mem_singleton.1 h1).symm
theorem A4m (ga:Cf a) (hn:a.Size=n) (h:O4 a n O) (hl:O.length≤200):Gm (O.drop 1) (fun w_0 w_1=>Cw w_0 w_1)=some (Jn n O (Ce n)):=by
 have h8:=ga.2.1
 obtain ⟨tl,e⟩:=Y6 ga hn h
 have hok:=h.ok
 have hd:=h.1.nodup
 subst e
 have hu:=List.nodup_cons.1 hd
 rw [List.drop_one,List.tail_cons]
 have hlt:tl.length≤200:=by simp at hl;omega
 rw [Atr (B:=fun r q=>Bs n q r) (by omega) (fun r hr=>by have:=(hok r (by simp [hr])).1;omega) hu.2 (fun r hr q hq=>by
  unfold Cw
  rw [Acr (hok q (by simp [hq])) (hok r (by simp [hr])) (by omega)]
  rfl)]
 congr 1
 unfold Jn
 rw [List.filter_cons_of_neg (by
  rw [decide_eq_true_eq]
  rintro ⟨_,h2,_⟩
  exact h2 rfl)]
 refine List.filter_congr fun r hr=> ?_
 rw [decide_eq_decide]
 constructor
 ·intro h1
  refine ⟨Gs r,fun e=>hu.1 (e▸hr),fun k hk _ g2=> ?_⟩
  rcases List.mem_cons.1 hk with hk | hk
  ·exact .inl hk
  ·by_cases e:k=r
   ·exact .inr e
   ·exact absurd g2 (h1 k hk e)
 ·rintro ⟨_,h2,h3⟩ k hk hkr g2
  rcases h3 k (by simp [hk]) (Gs k) g2 with h4 | h4
  ·exact hu.1 (h4▸hk)
  ·exact hkr h4
end
end Go.Proofs.YtjcekpmojnnmbaaGreat.Ax
namespace Go.Proofs.YtjcekpmojnnmbaaGreat.Ax
open Go Classical
section
variable {a:SAlgebra} {n:Nat}
end
end Go.Proofs.YtjcekpmojnnmbaaGreat.Ax
namespace Go.Proofs.YtjcekpmojnnmbaaGreat.Ax
open Go Classical
end Go.Proofs.YtjcekpmojnnmbaaGreat.Ax
namespace Go.Proofs.YtjcekpmojnnmbaaGreat.Ax
open Go Classical
theorem J8 {α β:Type} {o:Option α} {a:α} {k:α→Option β} {r:Option β} (h:o=some a) (h2:k a=r):o.bind k=r:=by rw [h];exact h2
theorem Ail {xs ys:List Int} (h:xs.length≤LIM):Es xs ys=some (decide (xs=ys)):=by
 have hL:=Bn
 by_cases hl:xs.length=ys.length
 ·unfold Es
  rw [if_neg (by simp [hl])]
  have this:=H5 (body:=Cc xs ys) (fun i=>(i:Int)) xs.length (fun i=>¬nth xs i=nth ys i) () () (fun i hi hb=>by
   unfold Cc
   rw [if_pos (by omega)]
   repeat rw [Ae (by first | omega | (unfold InI;omega))]
   rw [tna0,if_neg (by simpa using hb)]
   repeat rw [Ae (by first | omega | (unfold InI;omega))]
   rfl) (fun i hi hb=>by
   unfold Cc
   rw [if_pos (by omega)]
   repeat rw [Ae (by first | omega | (unfold InI;omega))]
   rw [tna0,if_pos (by simpa using hb)]) (by
   unfold Cc
   rw [if_neg (by omega)]) 0 (by omega)
  have this':Al (Cc xs ys) 0=_:=this
  rw [this']
  by_cases he:xs=ys
  ·rw [if_neg (J4.2 fun i hi=>by rw [he]),dtr0 he];rfl
  ·rw [if_pos (Classical.byContradiction fun hh=>he (Lm hl (J4.1 hh))),dfa0 he];rfl
 ·unfold Es
  rw [if_pos (by omega),dfa0 (fun hh=>hl (by rw [hh]))]
structure FewC (a:SAlgebra) (n:Nat) (O:List (List Int)):Prop where
 cl:O4 a n O
 le:O.length≤200
 im:Cb a=some (O,true)
 s2:Cj a 200=some O
 s5:Cj a 5000=some O
section
variable {a:SAlgebra} {n:Nat} {O:List (List Int)}
theorem FewC.impl (h:FewC a n O) (hs:Rb a) (hg:Cf a):Bc a=some (O,true):=by
 unfold Bc
 rw [Ya hs,dtr0 hg]
 simp only [obs0,if_true]
 rw [h.im];rfl
theorem FewC.few (h:FewC a n O) (hs:Rb a) (hg:Cf a):C3 a=some true:=by
 have:=h.le
 unfold C3
 rw [Akz hs,dtr0 hg]
 simp only [obs0,if_true]
 rw [h.s2]
 simp only [obs0]
 rw [dtr0 (by omega)]
theorem FewC.all (h:FewC a n O):Fr a=some O:=by
 unfold Fr
 rw [h.s5];rfl
theorem Awx (hs:Rb a) (hg:Cf a) (hn:a.Size=n):(∃O,FewC a n O)∨(Bc a=some (Aw (List Int),false)∧C3 a=some false):=by
 rcases Au3 hg hn with ⟨O,h1,h2,h3,h4,h5⟩ | ⟨h1,O,h2,h3⟩
 ·exact .inl ⟨O,h1,h2,h3,h4,h5⟩
 ·refine .inr ⟨?_,?_⟩
  ·unfold Bc
   rw [Ya hs,dtr0 hg]
   simp only [obs0,if_true]
   rw [h1];rfl
  ·unfold C3
   rw [Akz hs,dtr0 hg]
   simp only [obs0,if_true]
   rw [h2]
   simp only [obs0]
   rw [dfa0 (by omega)]
theorem Asr (h:FewC a n O) (h8:n≤8) (p:List Int):(Jn n O p).length≤200 ∧ ∀r∈Jn n O p,r.length≤8:=by
 have hle:=h.le
 refine ⟨Nat.le_trans (List.length_filter_le _ _) hle,fun r hr=> ?_⟩
 have:=(h.cl.ok r (List.mem_filter.1 hr).1).1
 omega
theorem FewC.minI (h:FewC a n O) (hs:Rb a) (hg:Cf a) (hn:a.Size=n):C6 a=some (Jn n O (Ce n),true)∧C7 a=some (Jn n O (Ce n),true):=by
 have h8:=hg.2.1
 have hle:=h.le
 have hpos:1≤O.length:=by
  obtain ⟨tl,e⟩:=Y6 hg hn h.cl
  rw [e];simp
 constructor
 ·unfold C6
  rw [h.impl hs hg]
  simp only [obs0,if_true]
  rw [Ae (by omega)]
  have e:List.take ((O.length:Int).toNat-Int.toNat 1) (List.drop (Int.toNat 1) O)=O.drop 1:=List.take_of_length_le (by simp)
  rw [e,A4m hg hn h.cl hle]
  rfl
 ·unfold C7
  rw [h.few hs hg]
  simp only [obs0,if_true]
  rw [h.all,hn,Vk (by omega)]
  simp only [obs0]
  rw [Af2 h.cl.ok (by omega) (Ac4 n) (by omega)]
  rfl
end
end Go.Proofs.YtjcekpmojnnmbaaGreat.Ax
namespace Go.Proofs.YtjcekpmojnnmbaaGreat.Ax
open Go Classical
theorem Aj1 {α:Type} [DecidableEq α] : ∀ {L M:List α},L.Nodup→(∀r∈L,r∈M)→L.length≤M.length
 | [],_,_,_=>Nat.zero_le _
 | x::L,M,h,hs=>by
   obtain ⟨h1,h2⟩:=List.nodup_cons.1 h
   have hx:=hs x (by simp)
   have:=Aj1 (L:=L) (M:=M.erase x) h2 fun r hr=>by
    have hne:r≠x:=fun hh=>h1 (hh▸hr)
    exact (List.mem_erase_of_ne hne).2 (hs r (by simp [hr]))
   rw [List.length_erase_of_mem hx] at this
   have:=List.length_pos_of_mem hx
   simp only [List.length_cons];omega
def Ch (n:Nat) (p:Nat→Bool):Nat:=((List.range n).filter p).length
theorem Awk (p:Nat→Bool):Ch 0 p=0:=rfl
theorem Gn (n:Nat) (p:Nat→Bool):Ch (n+1) p=Ch n p+if p n=true then 1 else 0:=by
 unfold Ch
 rw [List.range_succ,List.filter_append,List.length_append]
 cases h:p n<;>simp [h]
theorem Kw {n:Nat} {p q:Nat→Bool} (h : ∀i,i<n→p i=q i):Ch n p=Ch n q:=by
 unfold Ch
 congr 1
 exact List.filter_congr fun i hi=>h i (List.mem_range.1 hi)
theorem Ao8 (n:Nat) (p:Nat→Bool):Ch n p≤n:=by
 unfold Ch
 exact Nat.le_trans (List.length_filter_le _ _) (by simp)
theorem Amy {n:Nat} {p q:Nat→Bool} (h : ∀i,i<n→p i=true→q i=true):Ch n p≤Ch n q:=by
 induction n with
 | zero=>simp [Awk]
 | succ n ih=>
   have:=ih fun i hi=>h i (by omega)
   rw [Gn,Gn]
   by_cases hp:p n=true
   ·rw [if_pos hp,if_pos (h n (by omega) hp)];omega
   ·rw [if_neg hp];split<;>omega
theorem Abn (n:Nat) (p q:Nat→Bool):Ch n p=Ch n (fun i=>p i&&q i)+Ch n fun i=>p i && !q i:=by
 induction n with
 | zero=>rfl
 | succ n ih=>
   rw [Gn,Gn,Gn,ih]
   cases hp:p n<;>cases hq:q n<;>simp<;>omega
theorem Ayx (n:Nat):Ch n (fun _=>true)=n:=by
 induction n with
 | zero=>rfl
 | succ n ih=>rw [Gn,ih];rfl
theorem Anl (n:Nat):Ch n (fun _=>false)=0:=by
 induction n with
 | zero=>rfl
 | succ n ih=>rw [Gn,ih];rfl
theorem Ayv (n:Nat) (p:Nat→Bool):Ch n p+Ch n (fun i => !p i)=n:=by
 have:=Abn n (fun _=>true) p
 rw [Ayx] at this
 simp only [Bool.true_and] at this
 have e:Ch n p=Ch n fun i=>p i:=rfl
 omega
theorem Yg {n m:Nat} {p q:Nat→Bool} (f:Nat→Nat) (h : ∀i,i<n→p i=true→f i<m∧q (f i)=true) (hi : ∀i j,i<n→j<n→p i=true→p j=true→f i=f j→i=j):Ch n p≤Ch m q:=by
 have h1:(((List.range n).filter p).map f).Nodup:=by
  rw [List.Nodup,List.pairwise_map]
  refine List.Pairwise.imp_of_mem ?_ (List.nodup_range.filter p)
  intro a b ha hb hne e
  have ha:=List.mem_filter.1 ha
  have hb:=List.mem_filter.1 hb
  exact hne (hi a b (List.mem_range.1 ha.1) (List.mem_range.1 hb.1) ha.2 hb.2 e)
 have:=Aj1 h1 (M:=(List.range m).filter q) fun r hr=>by
  obtain ⟨i,hi,rfl⟩:=List.mem_map.1 hr
  have hi:=List.mem_filter.1 hi
  obtain ⟨a,b⟩:=h i (List.mem_range.1 hi.1) hi.2
  exact List.mem_filter.2 ⟨List.mem_range.2 a,b⟩
 rw [List.length_map] at this
 exact this
theorem Qk {n k:Nat} {p q:Nat→Bool} (hk:k<n) (hp:p k=false) (hq:q k=true) (h : ∀i,i<n→i≠k→p i=q i):Ch n q=Ch n p+1:=by
 induction n with
 | zero=>omega
 | succ n ih=>
   rw [Gn,Gn]
   by_cases e:k=n
   ·subst e
    rw [Kw (p:=p) (q:=q) fun i hi=>h i (by omega) (by omega)]
    simp [hp,hq]
   ·rw [ih (by omega) fun i hi hne=>h i (by omega) hne,h n (by omega) (fun hh=>e hh.symm)];omega
theorem Ac7 {n k:Nat} {p:Nat→Bool} (hk:k<n) (hp:p k=true):0<Ch n p:=by
 unfold Ch
 exact List.length_pos_of_mem (List.mem_filter.2 ⟨List.mem_range.2 hk,hp⟩)
theorem A0r {n:Nat} {p:Nat→Bool} (h:0<Ch n p) : ∃k,k<n∧p k=true:=by
 unfold Ch at h
 obtain ⟨k,hk⟩:=List.exists_mem_of_length_pos h
 have:=List.mem_filter.1 hk
 exact ⟨k,List.mem_range.1 this.1,this.2⟩
theorem Azd {n i j:Nat} {p:Nat→Bool} (hi:i<n) (hj:j<n) (hne:i≠j) (pi:p i=true) (pj:p j=true):2≤Ch n p:=by
 have h1:=Qk (n:=n) (k:=i) (p:=fun k=>p k && !decide (k=i)) (q:=p) hi (by simp) pi fun k _ hk=>by simp [hk]
 have h2:=Ac7 (n:=n) (k:=j) (p:=fun k=>p k && !decide (k=i)) hj (by simp [pj];omega)
 omega
structure MtOk (n:Nat) (E:Nat→Nat→Bool) (m:List Int):Prop where
 len:m.length=n
 own : ∀k,k<n→nth m k = -1 ∨ ∃j:Nat,j<n∧nth m k=(j:Int)∧E j k=true
def Ahs (n:Nat) (m:List Int) (j:Nat):Nat:=Ch n fun k=>decide (nth m k=(j:Int))
inductive TryL (n:Nat) (E:Nat→Nat→Bool):Nat→Nat→List Bool→List Int→Bool→List Bool→List Int→Prop
 | done (i:Nat) (s:List Bool) (m:List Int):TryL n E n i s m false s m
 | skip {k i:Nat} {s s':List Bool} {m m':List Int} {o:Bool} (hk:k<n) (h:nth s k=true∨E i k=false) (t:TryL n E (k+1) i s m o s' m'):TryL n E k i s m o s' m'
 | free {k i:Nat} {s:List Bool} {m:List Int} (hk:k<n) (hs:nth s k=false) (he:E i k=true) (hm:nth m k = -1):TryL n E k i s m true (s.set k true) (m.set k (i:Int))
 | push {k i j:Nat} {s s':List Bool} {m m':List Int} (hk:k<n) (hs:nth s k=false) (he:E i k=true) (hm:nth m k=(j:Int)) (t:TryL n E 0 j (s.set k true) m true s' m'):TryL n E k i s m true s' (m'.set k (i:Int))
 | back {k i j:Nat} {s s1 s':List Bool} {m m1 m':List Int} {o:Bool} (hk:k<n) (hs:nth s k=false) (he:E i k=true) (hm:nth m k=(j:Int)) (t:TryL n E 0 j (s.set k true) m false s1 m1) (t2:TryL n E (k+1) i s1 m1 o s' m'):TryL n E k i s m o s' m'
section
variable {n:Nat} {E:Nat→Nat→Bool}
theorem MtOk.set {m:List Int} (h:MtOk n E m) {k i:Nat} (_hk:k<n) (hi:i<n) (he:E i k=true):MtOk n E (m.set k (i:Int)):=by
 refine ⟨by rw [List.length_set];exact h.len,fun k' hk'=> ?_⟩
 rw [E4 _ _ _ _ (by rw [h.len];exact hk')]
 by_cases e:k=k'
 ·rw [if_pos e,←e];exact .inr ⟨i,hi,rfl,he⟩
 ·rw [if_neg e];exact h.own k' hk'
theorem P2 {s:List Bool} {k k':Nat} (hk:k'<s.length):nth (s.set k true) k'=true↔k=k'∨nth s k'=true:=by
 rw [E4 _ _ _ _ hk]
 by_cases e:k=k'<;>simp [e]
theorem TryL.out {k i:Nat} {s s':List Bool} {m m':List Int} {o:Bool} (t:TryL n E k i s m o s' m'):s.length=n→MtOk n E m→i<n →
  s'.length=n∧(∀k,k<n→nth s k=true→nth s' k=true)∧MtOk n E m'∧(∀k,k<n→nth s k=true→nth m' k=nth m k)∧(o=true → ∀j,Ahs n m' j=Ahs n m j+if j=i then 1 else 0)∧(o=false→m'=m):=by
 induction t with
 | done i s m=>exact fun hs hm _=>⟨hs,fun _ _ h=>h,hm,fun _ _ _=>rfl,fun h=>absurd h Bool.false_ne_true,fun _=>rfl⟩
 | skip hk h t ih=>exact ih
 | @free k i s m hk hs he hf=>
   intro hsl hm hi
   refine ⟨by rw [List.length_set];exact hsl,fun k' hk' h=>(P2 (by omega)).2 (.inr h),hm.set hk hi he,fun k' hk' h=> ?_,fun _ j=> ?_,fun h=>absurd h (by simp)⟩
   ·rw [E4 _ _ _ _ (by rw [hm.len];exact hk'),if_neg (fun e=>by rw [e,h] at hs;exact absurd hs (by simp))]
   ·unfold Ahs
    by_cases e:j=i
    ·subst e
     rw [if_pos rfl]
     refine Qk hk (by rw [hf];exact dfa0 (by omega)) (by rw [E4 _ _ _ _ (by rw [hm.len];exact hk),if_pos rfl];exact dtr0 rfl) fun k' hk' hne=> ?_
     rw [E4 _ _ _ _ (by rw [hm.len];exact hk'),if_neg (Ne.symm hne)]
    ·rw [if_neg e,Nat.add_zero]
     refine Kw fun k' hk'=> ?_
     rw [E4 _ _ _ _ (by rw [hm.len];exact hk')]
     by_cases e':k=k'
     ·subst e'
      rw [if_pos rfl,hf,dfa0 (by omega),dfa0 (by omega)]
     ·rw [if_neg e']
 | @push k i j s s' m m' hk hs he hf t ih=>
   intro hsl hm hi
   have hj:j<n:=by
    rcases hm.own k hk with h | ⟨j',h1,h2,_⟩<;>omega
   obtain ⟨a1,a2,a3,a4,a5,_⟩:=ih (by rw [List.length_set];exact hsl) hm hj
   have hkj:nth m' k=(j:Int):=by rw [a4 k hk ((P2 (by omega)).2 (.inl rfl)),hf]
   refine ⟨a1,fun k' hk' h=>a2 k' hk' ((P2 (by omega)).2 (.inr h)),a3.set hk hi he,fun k' hk' h=> ?_,fun _ l=> ?_,fun h=>absurd h (by simp)⟩
   ·rw [E4 _ _ _ _ (by rw [a3.len];exact hk'),if_neg (fun e=>by rw [e,h] at hs;exact absurd hs (by simp))]
    exact a4 k' hk' ((P2 (by omega)).2 (.inr h))
   ·have h5:=a5 rfl l
    have hset : ∀k',k'<n→nth (m'.set k (i:Int)) k'=if k=k' then (i:Int) else nth m' k':=fun k' hk'=>E4 _ _ _ _ (by rw [a3.len];exact hk')
    have key:Ahs n (m'.set k (i:Int)) l+(if l=j then 1 else 0)=Ahs n m' l+if l=i then 1 else 0:=by
     unfold Ahs
     by_cases e1:l=i
     ·by_cases e2:l=j
      ·rw [if_pos e1,if_pos e2]
       congr 1
       refine Kw fun k' hk'=> ?_
       rw [hset k' hk']
       by_cases e':k=k'
       ·subst e';rw [if_pos rfl,hkj,←e1,←e2]
       ·rw [if_neg e']
      ·rw [if_pos e1,if_neg e2,Nat.add_zero]
       refine Qk hk (by rw [hkj];exact dfa0 (by omega)) (by rw [hset k hk,if_pos rfl];exact dtr0 (by omega)) fun k' hk' hne=> ?_
       rw [hset k' hk',if_neg (Ne.symm hne)]
     ·by_cases e2:l=j
      ·rw [if_neg e1,if_pos e2,Nat.add_zero]
       refine (Qk hk (by rw [hset k hk,if_pos rfl];exact dfa0 (by omega)) (by rw [hkj];exact dtr0 (by omega)) fun k' hk' hne=> ?_).symm
       rw [hset k' hk',if_neg (Ne.symm hne)]
      ·rw [if_neg e1,if_neg e2]
       congr 1
       refine Kw fun k' hk'=> ?_
       rw [hset k' hk']
       by_cases e':k=k'
       ·subst e';rw [if_pos rfl,hkj,dfa0 (by omega),dfa0 (by omega)]
       ·rw [if_neg e']
    omega
 | @back k i j s s1 s' m m1 m' o hk hs he hf t t2 ih ih2=>
   intro hsl hm hi
   have hj:j<n:=by
    rcases hm.own k hk with h | ⟨j',h1,h2,_⟩<;>omega
   obtain ⟨a1,a2,a3,a4,_,a6⟩:=ih (by rw [List.length_set];exact hsl) hm hj
   have e:=a6 rfl
   subst e
   obtain ⟨b1,b2,b3,b4,b5,b6⟩:=ih2 a1 hm hi
   have mo : ∀k',k'<n→nth s k'=true→nth s1 k'=true:=fun k' hk' h=>a2 k' hk' ((P2 (by omega)).2 (.inr h))
   exact ⟨b1,fun k' hk' h=>b2 k' hk' (mo k' hk' h),b3,fun k' hk' h=>b4 k' hk' (mo k' hk' h),b5,b6⟩
theorem TryL.closed {k i:Nat} {s s':List Bool} {m m':List Int} {o:Bool} (t:TryL n E k i s m o s' m'):s.length=n→MtOk n E m→i<n→o=false →
  (∀k',k≤k'→k'<n→E i k'=true→nth s' k'=true) ∧ ∀k',k'<n→nth s' k'=true→nth s k'=false → ∃j:Nat,nth m k'=(j:Int) ∧ ∀l,l<n→E j l=true→nth s' l=true:=by
 induction t with
 | done i s m=>exact fun _ _ _ _=>⟨fun k' h1 h2=>by omega,fun k' _ h1 h2=>by rw [h1] at h2;cases h2⟩
 | @skip k i s s' m m' o hk h t ih=>
   intro hsl hm hi ho
   obtain ⟨a1,a2⟩:=ih hsl hm hi ho
   refine ⟨fun k' h1 h2 h3=> ?_,a2⟩
   by_cases e:k'=k
   ·subst e
    rcases h with h | h
    ·exact (t.out hsl hm hi).2.1 _ h2 h
    ·rw [h] at h3;cases h3
   ·exact a1 k' (by omega) h2 h3
 | free=>exact fun _ _ _ h=>absurd h (by simp)
 | push=>exact fun _ _ _ h=>absurd h (by simp)
 | @back k i j s s1 s' m m1 m' o hk hs he hf t t2 ih ih2=>
   intro hsl hm hi ho
   have hj:j<n:=by
    rcases hm.own k hk with h | ⟨j',h1,h2,_⟩<;>omega
   have hsl':(s.set k true).length=n:=by rw [List.length_set];exact hsl
   obtain ⟨q1,q2,_,_,_,q6⟩:=t.out hsl' hm hj
   have e:=q6 rfl
   subst e
   obtain ⟨r1,r2,_⟩:=t2.out q1 hm hi
   obtain ⟨a1,a2⟩:=ih hsl' hm hj rfl
   obtain ⟨b1,b2⟩:=ih2 q1 hm hi ho
   refine ⟨fun k' h1 h2 h3=> ?_,fun k' hk' h1 h2=> ?_⟩
   ·by_cases e:k'=k
    ·subst e
     exact r2 _ h2 (q2 _ h2 ((P2 (by omega)).2 (.inl rfl)))
    ·exact b1 k' (by omega) h2 h3
   ·cases h3:nth s1 k' with
    | false=>exact b2 k' hk' h1 h3
    | true=>
      by_cases e:k=k'
      ·subst e
       exact ⟨j,hf,fun l hl h=>r2 l hl (a1 l (Nat.zero_le _) hl h)⟩
      ·obtain ⟨j',j1,j2⟩:=a2 k' hk' h3 (by rw [E4 _ _ _ _ (by omega),if_neg e];exact h2)
       exact ⟨j',j1,fun l hl h=>r2 l hl (j2 l hl h)⟩
def A57 (n:Nat) (E:Nat→Nat→Bool) (m:List Int) (D:Nat→Bool):Prop := ∀k,k<n→D k=true → ∃j:Nat,nth m k=(j:Int) ∧ ∀l,l<n→E j l=true→D l=true
theorem TryL.dead {k i:Nat} {s s':List Bool} {m m':List Int} {o:Bool} (t:TryL n E k i s m o s' m') (D:Nat→Bool):s.length=n→MtOk n E m→i<n→A57 n E m D →
  (∀k',k'<n→D k'=true→nth m' k'=nth m k')∧(o=true → ∃k',k'<n∧E i k'=true∧D k'=false):=by
 induction t with
 | done i s m=>exact fun _ _ _ _=>⟨fun _ _ _=>rfl,fun h=>absurd h (by simp)⟩
 | skip hk h t ih=>exact ih
 | @free k i s m hk hs he hf=>
   intro hsl hm hi hd
   have hD:D k=false:=by
    cases h:D k with
    | false=>rfl
    | true=>obtain ⟨j,h1,_⟩:=hd k hk h;omega
   refine ⟨fun k' hk' h=> ?_,fun _=>⟨k,hk,he,hD⟩⟩
   rw [E4 _ _ _ _ (by rw [hm.len];exact hk'),if_neg (fun e=>by rw [e,h] at hD;cases hD)]
 | @push k i j s s' m m' hk hs he hf t ih=>
   intro hsl hm hi hd
   have hj:j<n:=by
    rcases hm.own k hk with h | ⟨j',h1,h2,_⟩<;>omega
   obtain ⟨a1,a2⟩:=ih (by rw [List.length_set];exact hsl) hm hj hd
   have ml:=(t.out (by rw [List.length_set];exact hsl) hm hj).2.2.1.len
   obtain ⟨l,l1,l2,l3⟩:=a2 rfl
   have hD:D k=false:=by
    cases h:D k with
    | false=>rfl
    | true=>
      obtain ⟨j',h1,h2⟩:=hd k hk h
      have:j'=j:=by omega
      subst this
      rw [h2 l l1 l2] at l3;cases l3
   refine ⟨fun k' hk' h=> ?_,fun _=>⟨k,hk,he,hD⟩⟩
   rw [E4 _ _ _ _ (by rw [ml];exact hk'),if_neg (fun e=>by rw [e,h] at hD;cases hD)]
   exact a1 k' hk' h
 | @back k i j s s1 s' m m1 m' o hk hs he hf t t2 ih ih2=>
   intro hsl hm hi hd
   have hj:j<n:=by
    rcases hm.own k hk with h | ⟨j',h1,h2,_⟩<;>omega
   have q:=t.out (by rw [List.length_set];exact hsl) hm hj
   have e:=q.2.2.2.2.2 rfl
   subst e
   exact ih2 q.1 hm hi hd
structure MtOne (n:Nat) (E:Nat→Nat→Bool) (m:List Int):Prop extends MtOk n E m where
 one : ∀j,Ahs n m j≤1
def Av6 (n:Nat) (m:List Int):Nat:=Ch n fun k=>decide (nth m k ≠ -1)
theorem MtOne.inj {m:List Int} (h:MtOne n E m) {k l:Nat} (hk:k<n) (hl:l<n) {j:Nat} (ek:nth m k=(j:Int)) (el:nth m l=(j:Int)):k=l:=by
 refine Classical.byContradiction fun hne=> ?_
 have:=Azd (p:=fun k=>decide (nth m k=(j:Int))) hk hl hne (dtr0 ek) (dtr0 el)
 have:=h.one j
 unfold Ahs at this
 omega
structure MtInv (n:Nat) (E:Nat→Nat→Bool) (i0:Nat) (m:List Int) (S D:Nat→Bool):Prop where
 ok:MtOk n E m
 cnt : ∀j,Ahs n m j=if j<i0∧S j=true then 1 else 0
 dead:A57 n E m D
 no : ∀j,j<i0→S j=false → ∀k,k<n→E j k=true→D k=true
theorem MtInv.start (n:Nat) (E:Nat→Nat→Bool):MtInv n E 0 (List.replicate n (-1)) (fun _=>false) fun _=>false where
 ok:=⟨by simp,fun k hk=> .inl (Td _ hk)⟩
 cnt j:=by
  rw [if_neg (by omega)]
  unfold Ahs
  rw [Kw (q:=fun _=>false) fun k hk=>by rw [Td _ hk];exact dfa0 (by omega)]
  simp [Ch]
 dead k _ h:=by cases h
 no j h:=by omega
theorem MtInv.step {i:Nat} {m m':List Int} {S D:Nat→Bool} {s':List Bool} {o:Bool} (h:MtInv n E i m S D) (hi:i<n) (t:TryL n E 0 i (List.replicate n false) m o s' m') :
  ∃D',MtInv n E (i+1) m' (fun j=>if j=i then o else S j) D':=by
 have hsl:(List.replicate n false).length=n:=by simp
 obtain ⟨a1,a2,a3,a4,a5,a6⟩:=t.out hsl h.ok hi
 cases o with
 | true=>
   obtain ⟨d1,d2⟩:=t.dead D hsl h.ok hi h.dead
   refine ⟨D,a3,fun j=> ?_,fun k hk hD=> ?_,fun j hj hS k hk he=> ?_⟩
   ·rw [a5 rfl j,h.cnt j]
    by_cases e:j=i
    ·subst e
     rw [if_neg (by omega),if_pos rfl,if_pos rfl,if_pos ⟨by omega,rfl⟩]
    ·rw [if_neg e,if_neg e]
     by_cases hc:j<i∧S j=true
     ·rw [if_pos hc,if_pos ⟨by omega,hc.2⟩]
     ·rw [if_neg hc,if_neg (fun hh=>hc ⟨by omega,hh.2⟩)]
   ·obtain ⟨j,j1,j2⟩:=h.dead k hk hD
    exact ⟨j,by rw [d1 k hk hD];exact j1,j2⟩
   ·by_cases e:j=i
    ·rw [if_pos e] at hS;cases hS
    ·rw [if_neg e] at hS
     exact h.no j (by omega) hS k hk he
 | false=>
   have e:=a6 rfl
   subst e
   obtain ⟨c1,c2⟩:=t.closed hsl h.ok hi rfl
   refine ⟨fun k=>D k || nth s' k,h.ok,fun j=> ?_,fun k hk hD=> ?_,fun j hj hS k hk he=> ?_⟩
   ·rw [h.cnt j]
    by_cases e:j=i
    ·subst e
     rw [if_neg (by omega),if_neg (by simp)]
    ·rw [if_neg e]
     by_cases hc:j<i∧S j=true
     ·rw [if_pos hc,if_pos ⟨by omega,hc.2⟩]
     ·rw [if_neg hc,if_neg (fun hh=>hc ⟨by omega,hh.2⟩)]
   ·cases hd:D k with
    | true=>
      obtain ⟨j,j1,j2⟩:=h.dead k hk hd
      exact ⟨j,j1,fun l hl he=>by rw [j2 l hl he];rfl⟩
    | false=>
      rw [hd,Bool.false_or] at hD
      obtain ⟨j,j1,j2⟩:=c2 k hk hD (Td _ hk)
      exact ⟨j,j1,fun l hl he=>by rw [j2 l hl he];simp⟩
   ·by_cases e:j=i
    ·subst e
     rw [c1 k (Nat.zero_le _) hk he];simp
    ·rw [if_neg e] at hS
     rw [h.no j (by omega) hS k hk he];rfl
section
variable {m:List Int} {S D:Nat→Bool}
theorem MtInv.one (h:MtInv n E n m S D):MtOne n E m:=⟨h.ok,fun j=>by rw [h.cnt j];split<;>omega⟩
theorem MtInv.got (h:MtInv n E n m S D) {j:Nat} (hj:j<n):(∃k,k<n∧nth m k=(j:Int))↔S j=true:=by
 have hc:=h.cnt j
 constructor
 ·rintro ⟨k,hk,e⟩
  have:=Ac7 (p:=fun k=>decide (nth m k=(j:Int))) hk (dtr0 e)
  unfold Ahs at hc
  by_cases hs:j<n∧S j=true
  ·exact hs.2
  ·rw [if_neg hs] at hc;omega
 ·intro hs
  rw [if_pos ⟨hj,hs⟩] at hc
  obtain ⟨k,hk,e⟩:=A0r (p:=fun k=>decide (nth m k=(j:Int))) (n:=n) (by unfold Ahs at hc;omega)
  exact ⟨k,hk,of_decide_eq_true e⟩
theorem MtInv.size (h:MtInv n E n m S D):Av6 n m=Ch n S:=by
 refine Nat.le_antisymm ?_ ?_
 ·refine Yg (fun k=>(nth m k).toNat) (fun k hk hm=> ?_) fun k l hk hl hm hm' e=> ?_
  ·rcases h.ok.own k hk with h1 | ⟨j,h1,h2,_⟩
   ·exact absurd h1 (of_decide_eq_true hm)
   ·rw [h2,tna0]
    exact ⟨h1,(h.got h1).1 ⟨k,hk,h2⟩⟩
  ·rcases h.ok.own k hk with h1 | ⟨j,h1,h2,_⟩
   ·exact absurd h1 (of_decide_eq_true hm)
   rcases h.ok.own l hl with h1' | ⟨j',h1',h2',_⟩
   ·exact absurd h1' (of_decide_eq_true hm')
   exact h.one.inj hk hl h2 (by omega)
 ·have hch : ∀j,∃k,j<n→S j=true→k<n∧nth m k=(j:Int):=fun j=>by
   by_cases hj:j<n∧S j=true
   ·obtain ⟨k,h1,h2⟩:=(h.got hj.1).2 hj.2
    exact ⟨k,fun _ _=>⟨h1,h2⟩⟩
   ·exact ⟨0,fun h1 h2=>absurd ⟨h1,h2⟩ hj⟩
  obtain ⟨f,hf⟩:=Classical.axiomOfChoice hch
  refine Yg f (fun j hj hs=> ?_) fun i j hi hj hsi hsj e=> ?_
  ·obtain ⟨h1,h2⟩:=hf j hj hs
   exact ⟨h1,dtr0 (by omega)⟩
  ·have h1:=(hf i hi hsi).2
   have h2:=(hf j hj hsj).2
   rw [e] at h1
   omega
noncomputable def A4x (n:Nat) (m:List Int) (D:Nat→Bool) (j:Nat):Bool:=decide (∃k,k<n∧D k=true∧nth m k=(j:Int))
theorem MtInv.dle (h:MtInv n E n m S D):Ch n D≤Ch n fun j=>S j&&A4x n m D j:=by
 refine Yg (fun k=>(nth m k).toNat) (fun k hk hD=> ?_) fun k l hk hl hD hD' e=> ?_
 ·obtain ⟨j,h1,_⟩:=h.dead k hk hD
  have hj:j<n:=by
   rcases h.ok.own k hk with h2 | ⟨j',h2,h3,_⟩<;>omega
  rw [h1,tna0]
  refine ⟨hj,?_⟩
  rw [(h.got hj).1 ⟨k,hk,h1⟩,Bool.true_and]
  exact dtr0 ⟨k,hk,hD,h1⟩
 ·obtain ⟨j,h1,_⟩:=h.dead k hk hD
  obtain ⟨j',h1',_⟩:=h.dead l hl hD'
  exact h.one.inj hk hl h1 (by omega)
theorem MtInv.most (h:MtInv n E n m S D) {μ:List Int} (hμ:MtOne n E μ):Av6 n μ≤Ch n S:=by
 have h1:=Abn n (fun k=>decide (nth μ k ≠ -1)) D
 have h2:=Abn n S fun j=>A4x n m D j
 have h3:=h.dle
 have h4:(Ch n fun k=>decide (nth μ k ≠ -1)&&D k)≤Ch n D:=Amy fun k _ hk=>by
  rw [Bool.and_eq_true] at hk;exact hk.2
 have h5:(Ch n fun k=>decide (nth μ k ≠ -1) && !D k)≤Ch n fun j=>S j && !A4x n m D j:=by
  refine Yg (fun k=>(nth μ k).toNat) (fun k hk hp=> ?_) fun k l hk hl hp hp' e=> ?_
  ·rw [Bool.and_eq_true] at hp
   rcases hμ.own k hk with h6 | ⟨j,h6,h7,h8⟩
   ·exact absurd h6 (of_decide_eq_true hp.1)
   ·rw [h7,tna0]
    have hD:D k=false:=by simpa using hp.2
    refine ⟨h6,?_⟩
    rw [Bool.and_eq_true]
    constructor
    ·cases hs:S j with
     | true=>rfl
     | false=>rw [h.no j h6 hs k hk h8] at hD;cases hD
    ·rw [Bool.not_eq_true']
     refine dfa0 ?_
     rintro ⟨l,hl,hDl,el⟩
     obtain ⟨j',j1,j2⟩:=h.dead l hl hDl
     have:j'=j:=by omega
     subst this
     rw [j2 k hk h8] at hD;cases hD
  ·rw [Bool.and_eq_true] at hp hp'
   rcases hμ.own k hk with h6 | ⟨j,h6,h7,_⟩
   ·exact absurd h6 (of_decide_eq_true hp.1)
   rcases hμ.own l hl with h6' | ⟨j',h6',h7',_⟩
   ·exact absurd h6' (of_decide_eq_true hp'.1)
   exact hμ.inj hk hl h7 (by omega)
 unfold Av6
 omega
end
end
end Go.Proofs.YtjcekpmojnnmbaaGreat.Ax
namespace Go.Proofs.YtjcekpmojnnmbaaGreat.Ax
open Go Classical
theorem Anx {α:Type} {f:Nat→Option α} (h : ∀n,LeO (f n) (f (n+1))):upO f:=by
 have key : ∀n k v,f n=some v→f (n+k)=some v:=by
  intro n k v e
  induction k with
  | zero=>exact e
  | succ k ih=>exact h (n+k) v ih
 intro n m v hnm e
 have:=key n (m-n) v e
 rwa [show n+(m-n)=m by omega] at this
def Mq (n:Nat) (s:List Bool):Nat:=Ch n fun k => !nth s k
theorem Akr {n k:Nat} {s:List Bool} (hs:s.length=n) (hk:k<n) (h:nth s k=false):Mq n s=Mq n (s.set k true)+1:=by
 refine Qk hk ?_ (by simp [h]) fun i hi hne=> ?_
 ·rw [E4 _ _ _ _ (by omega),if_pos rfl];rfl
 ·rw [E4 _ _ _ _ (by omega),if_neg (Ne.symm hne)]
theorem Af5 {n:Nat} {s s':List Bool} (h : ∀k,k<n→nth s k=true→nth s' k=true):Mq n s'≤Mq n s:=Amy fun k hk hh=>by
 cases hb:nth s k with
 | false=>rfl
 | true=>rw [h k hk hb] at hh;cases hh
theorem Aln {less:Int→Int→Option Bool} {s1 s2:Int→Int→List Bool→List Int→Option (Bool×List Bool×List Int)} (h : ∀i a s m,LeO (s1 i a s m) (s2 i a s m)) (i a:Int) (s:List Bool) (m:List Int):LeO (B8 s1 i a s less m) (B8 s2 i a s less m):=by
 unfold B8
 refine LeO.bind (LeO.loop (fun q=> ?_) _) fun _=>LeO.refl _
 obtain ⟨x,y,z⟩:=q
 unfold Av
 dsimp only
 refine LeO.ite (LeO.bind (LeO.refl _) fun t=> ?_) (LeO.refl _)
 cases t with
 | inl _=>exact LeO.refl _
 | inr _=>exact LeO.ask (LeO.ask (LeO.ite (LeO.refl _) (LeO.ask (LeO.bind (h _ _ _ _) fun _=>LeO.refl _))))
theorem As2 (less:Int→Int→Option Bool) (i a:Int) (s:List Bool) (m:List Int):upO fun k=>Bd less k i a s m:=by
 have step : ∀k i a s m,LeO (Bd less k i a s m) (Bd less (k+1) i a s m):=by
  intro k
  induction k with
  | zero=>intro i a s m v e;cases e
  | succ k ih=>intro i a s m;exact Aln ih i a s m
 exact Anx fun k=>step k i a s m
section
variable {n:Nat} {E:Nat→Nat→Bool} (hn:n≤1000000)
include hn
theorem Apv {less:Int→Int→Option Bool} (hl : ∀i k:Nat,i<n→k<n→less i k=some (E i k)) : ∀(u:Nat) (i:Nat) (s:List Bool) (m:List Int),i<n→s.length=n→MtOk n E m→Mq n s≤u →
  ∃o s' m',Bd less (u+1) i n s m=some (o,s',m')∧TryL n E 0 i s m o s' m':=by
 intro u
 induction u with
 | zero=>
   intro i s m hi hs hm hu
   have inner : ∀d k,k+d=n→Al (Av (Bd less 0) i n less) ((k:Int),s,m)=some (.inr (s,m))∧TryL n E k i s m false s m:=by
    intro d
    induction d with
    | zero=>
      intro k hk
      have:k=n:=by omega
      subst this
      refine ⟨D4 ?_,.done i s m⟩
      unfold Av
      dsimp only
      rw [if_neg (by omega)]
    | succ d ih=>
      intro k hk
      have hs1:nth s k=true:=by
       cases hb:nth s k with
       | true=>rfl
       | false=>
         have:=Ac7 (p:=fun k => !nth s k) (show k<n by omega) (by simp [hb])
         unfold Mq at hu
         omega
      obtain ⟨e,t⟩:=ih (k+1) (by omega)
      refine ⟨?_,.skip (by omega) (.inl hs1) t⟩
      rw [Gc (s':=(((k+1:Nat):Int),s,m)) ?_]
      ·exact e
      ·unfold Av
       dsimp only
       rw [if_pos (by omega),Ae (by omega),tna0,if_pos hs1]
       simp only [obs0]
       rw [Ae (by unfold InI;omega)]
       rfl
   obtain ⟨e,t⟩:=inner n 0 (by omega)
   refine ⟨false,s,m,?_,t⟩
   show B8 (Bd less 0) i n s less m=_
   unfold B8
   have e':Al (Av (Bd less 0) i n less) (0,s,m)=_:=e
   rw [e']
   rfl
 | succ u ihu=>
   intro i s m hi hs hm hu
   have inner : ∀d k (s:List Bool),k+d=n→s.length=n→Mq n s≤u+1 → ∃o s' m',Al (Av (Bd less (u+1)) i n less) ((k:Int),s,m)=some (if o=true then .inl (s',m') else .inr (s',m'))∧TryL n E k i s m o s' m':=by
    intro d
    induction d with
    | zero=>
      intro k s hk hs hu
      have:k=n:=by omega
      subst this
      refine ⟨false,s,m,D4 ?_,.done i s m⟩
      unfold Av
      dsimp only
      rw [if_neg (by omega)]
      rfl
    | succ d ih=>
      intro k s hk hs hu
      have hml:=hm.len
      have skip:(nth s k=true∨E i k=false) → ∃o s' m',Al (Av (Bd less (u+1)) i n less) ((k:Int),s,m)=some (if o=true then .inl (s',m') else .inr (s',m'))∧TryL n E k i s m o s' m':=by
       intro hsk
       obtain ⟨o,s',m',e,t⟩:=ih (k+1) s (by omega) hs hu
       refine ⟨o,s',m',?_,.skip (by omega) hsk t⟩
       rw [Gc (s':=(((k+1:Nat):Int),s,m)) ?_]
       ·exact e
       ·unfold Av
        dsimp only
        rw [if_pos (by omega),Ae (by omega),tna0]
        by_cases hb:nth s k=true
        ·rw [if_pos hb]
         simp only [obs0]
         rw [Ae (by unfold InI;omega)]
         rfl
        ·rw [if_neg hb,hl i k hi (by omega)]
         rcases hsk with h | h
         ·exact absurd h hb
         ·rw [h]
          simp only [obs0,Bool.false_eq_true,if_false]
          rw [Ae (by unfold InI;omega)]
          rfl
      cases hb:nth s k with
      | true=>exact skip (.inl hb)
      | false=>
        cases he:E i k with
        | false=>exact skip (.inr he)
        | true=>
          have hset:(s.set k true).length=n:=by rw [List.length_set];exact hs
          have hun:=Akr hs (show k<n by omega) hb
          rcases hm.own k (by omega) with hf | ⟨j,hj,hf,_⟩
          ·refine ⟨true,s.set k true,m.set k (i:Int),D4 ?_,.free (by omega) hb he hf⟩
           unfold Av
           dsimp only
           rw [if_pos (by omega),Ae (by omega),tna0,if_neg (by simp [hb]),hl i k hi (by omega),he]
           simp only [obs0,if_true]
           rw [Ae (by omega),Ae (by omega),if_pos (by omega),Ae (by omega)]
          ·obtain ⟨o1,s1,m1,e1,t1⟩:=ihu j (s.set k true) m hj hset hm (by omega)
           have q:=t1.out hset hm hj
           cases o1 with
           | true=>
             refine ⟨true,s1,m1.set k (i:Int),D4 ?_,.push (by omega) hb he hf t1⟩
             have hm1:=q.2.2.1.len
             unfold Av
             dsimp only
             rw [if_pos (by omega),Ae (by omega),tna0,if_neg (by simp [hb]),hl i k hi (by omega),he]
             simp only [obs0,if_true]
             rw [Ae (by omega),Ae (by omega),if_neg (by omega),Ae (by omega),hf,e1]
             simp only [obs0,if_true]
             rw [Ae (by omega)]
           | false=>
             have em:=q.2.2.2.2.2 rfl
             subst em
             have hu1:Mq n s1≤u+1:=by
              have:=Af5 (n:=n) (s:=s.set k true) (s':=s1) q.2.1
              omega
             obtain ⟨o,s',m',e,t⟩:=ih (k+1) s1 (by omega) q.1 hu1
             refine ⟨o,s',m',?_,.back (by omega) hb he hf t1 t⟩
             rw [Gc (s':=(((k+1:Nat):Int),s1,m1)) ?_]
             ·exact e
             ·unfold Av
              dsimp only
              rw [if_pos (by omega),Ae (by omega),tna0,if_neg (by simp [hb]),hl i k hi (by omega),he]
              simp only [obs0,if_true]
              rw [Ae (by omega),Ae (by omega),if_neg (by omega),Ae (by omega),hf,e1]
              simp only [obs0,Bool.false_eq_true,if_false]
              rw [Ae (by unfold InI;omega)]
              rfl
   obtain ⟨o,s',m',e,t⟩:=inner n 0 s (by omega) hs hu
   refine ⟨o,s',m',?_,t⟩
   show B8 (Bd less (u+1)) i n s less m=_
   unfold B8
   have e':Al (Av (Bd less (u+1)) i n less) (0,s,m)=_:=e
   rw [e']
   cases o<;>rfl
theorem At7 {less:Int→Int→Option Bool} (hl : ∀i k:Nat,i<n→k<n→less i k=some (E i k)) : ∃m S D,I3 n less=some ((n:Int)-(Ch n S:Nat))∧MtInv n E n m S D:=by
 have hL:=Bn
 unfold I3
 rw [Ae (by omega),tna0]
 have k1:=Fm (body:=D6 n) (fun i=>((i:Int),List.replicate i (-1:Int)++List.replicate (n-i) 0)) n (List.replicate n (-1)) (fun i hi=>by
  unfold D6
  dsimp only
  rw [tna0,if_pos (by omega),Ae (by simp;omega),Ae (by unfold InI;omega),tna0,A3j _ _ _ hi (by simp),List.replicate_succ']
  rfl) (by
  unfold D6
  dsimp only
  rw [tna0,if_neg (by omega),Nat.sub_self]
  simp)
 have k1':Al (D6 n) (0,List.replicate n 0)=some (List.replicate n (-1)):=by simpa using k1
 rw [k1']
 simp only [obs0]
 obtain ⟨t,e,m,S,D,h1,h2⟩:=C8 (body:=Gt n less) (fun s => ∃(i:Nat) (S D:Nat→Bool),s.1=(i:Int)∧i≤n∧MtInv n E i s.2.2.2 S D∧(∀j,i≤j→S j=false)∧s.2.1=(n:Int)-(Ch n S:Nat)) (fun s=>n-s.1.toNat) (fun t => ∃m S D,t=(n:Int)-(Ch n S:Nat)∧MtInv n E n m S D) (by
  rintro ⟨x,w,sn,m⟩ ⟨i,S,D,rfl,hi,hM,hS,hw⟩
  dsimp only at hM hw
  have hcn:=Ao8 n S
  unfold Gt
  dsimp only
  by_cases hin:i<n
  ·obtain ⟨o,s',m',e,t⟩:=Apv hn hl (Mq n (List.replicate n false)) i (List.replicate n false) m hin (by simp) hM.ok (Nat.le_refl _)
   have e2:(Amk fun k=>Bd less k i n (List.replicate n false) m)=some (o,s',m'):=Av5 (As2 less i n (List.replicate n false) m) e
   obtain ⟨D',hM'⟩:=hM.step hin t
   rw [if_pos (by omega),Ae (by omega),tna0,e2]
   simp only [obs0]
   have hS' : ∀j,i+1≤j→(if j=i then o else S j)=false:=fun j hj=>by rw [if_neg (by omega)];exact hS j (by omega)
   cases o with
   | true=>
     have hc:Ch n (fun j=>if j=i then true else S j)=Ch n S+1:=Qk hin (hS i (Nat.le_refl _)) (by simp) fun j hj hne=>by rw [if_neg hne]
     rw [if_pos rfl,Ae (by unfold InI;omega),Ae (by unfold InI;omega)]
     exact .inl ⟨_,rfl,⟨i+1,_,D',rfl,hin,hM',hS',by dsimp only;omega⟩,by dsimp only;omega⟩
   | false=>
     have hc:Ch n (fun j=>if j=i then false else S j)=Ch n S:=Kw fun j hj=>by
      by_cases h:j=i
      ·rw [if_pos h,h];exact (hS i (Nat.le_refl _)).symm
      ·rw [if_neg h]
     rw [if_neg (by simp),Ae (by unfold InI;omega)]
     exact .inl ⟨_,rfl,⟨i+1,_,D',rfl,hin,hM',hS',by dsimp only;omega⟩,by dsimp only;omega⟩
  ·have:i=n:=by omega
   subst this
   rw [if_neg (by omega)]
   exact .inr ⟨_,rfl,m,S,D,hw,hM⟩) (s:=((0:Int),(n:Int),Aw Bool,List.replicate n (-1))) ⟨0,fun _=>false,fun _=>false,rfl,Nat.zero_le _,MtInv.start n E,fun _ _=>rfl,by rw [Anl];dsimp only;omega⟩
 rw [e]
 exact ⟨m,S,D,congrArg some h1,h2⟩
end
theorem A2v {n:Nat} {E:Nat→Nat→Bool} {m m':List Int} {S S' D D':Nat→Bool} (h:MtInv n E n m S D) (h':MtInv n E n m' S' D'):Ch n S=Ch n S':=by
 have h1:=h'.most h.one
 have h2:=h.most h'.one
 rw [h.size] at h1
 rw [h'.size] at h2
 omega
end Go.Proofs.YtjcekpmojnnmbaaGreat.Ax
namespace Go.Proofs.YtjcekpmojnnmbaaGreat.Ax
open Go Classical
theorem A4z {α:Type} {L:List α} (hd:L.Nodup) {p:α} (h : ∀z,z∈L↔z=p):L=[p]:=by
 match L,hd,h with
 | [],_,h=>exact absurd ((h p).2 rfl) (by simp)
 | [x],_,h=>rw [(h x).1 (by simp)]
 | x::y::r,hd,h=>
   have e1:=(h x).1 (by simp)
   have e2:=(h y).1 (by simp)
   rw [e1,e2] at hd
   simp at hd
def Ad8 {α:Type}:List α→Option α
 | [c]=>some c
 | _=>none
theorem P1 {α:Type} {L:List α} {c:α} (h:Ad8 L=some c):L=[c]:=by
 match L,h with
 | [x],h=>simpa [Ad8] using h
theorem Amz {α:Type} {L:List α} (h:Ad8 L=none):L.length≠1:=by
 match L,h with
 | [],_=>simp
 | _::_::_,_=>simp
section
variable {a:SAlgebra} {n:Nat} {O:List (List Int)}
theorem Rg (hg:Cf a) (hn:a.Size=n) (h:O4 a n O) {q:List Int}:q∈O.drop 1↔Gq a n q∧q≠Ce n:=by
 obtain ⟨tl,e⟩:=Y6 hg hn h
 have hd:=h.1.nodup
 have hm:=h.2 q
 rw [e] at hd hm ⊢
 obtain ⟨h1,h2⟩:=List.nodup_cons.1 hd
 simp only [List.drop_one,List.tail_cons]
 constructor
 ·intro hq
  exact ⟨hm.1 (by simp [hq]),fun hh=>h1 (hh▸hq)⟩
 ·rintro ⟨hc,hne⟩
  rcases List.mem_cons.1 (hm.2 hc) with h3 | h3
  ·exact absurd h3 hne
  ·exact h3
theorem Aph (h:O4 a n O) {p q:List Int}:q∈Jn n O p↔Gq a n q∧Alp n O p q:=by
 unfold Jn
 rw [List.mem_filter,h.2 q,decide_eq_true_eq]
theorem Ave (hg:Cf a) (hn:a.Size=n) (h:O4 a n O) {p:List Int} (hp:p∈O.drop 1) (hu : ∀q∈O.drop 1,Bs n p q):Jn n O (Ce n)=[p]:=by
 obtain ⟨hpc,hpn⟩:=(Rg hg hn h).1 hp
 have hid:=T8 hg hn
 have hnd:(Jn n O (Ce n)).Nodup:=h.1.nodup.filter _
 refine A4z hnd fun z=> ?_
 rw [Aph h]
 constructor
 ·rintro ⟨hz,hz1,hz2,hz3⟩
  have hzt:=(Rg hg hn h).2 ⟨hz,fun hh=>hz2 hh.symm⟩
  rcases hz3 p ((h.2 p).2 hpc) (Gs p) (hu z hzt) with e | e
  ·exact absurd e hpn
  ·exact e.symm
 ·rintro rfl
  refine ⟨hpc,Gs z,fun hh=>hpn hh.symm,fun k hk h1 h2=> ?_⟩
  have hkc:=(h.2 k).1 hk
  by_cases e:k=Ce n
  ·exact .inl e
  ·exact .inr (Mt hkc.1 hpc.1 h2 (hu k ((Rg hg hn h).2 ⟨hkc,e⟩)))
theorem Aqy (hg:Cf a) (hn:a.Size=n) (h:O4 a n O) {c:List Int} (hc:Jn n O (Ce n)=[c]):c∈O.drop 1 ∧ ∀q∈O.drop 1,Bs n c q:=by
 have hm:c∈Jn n O (Ce n):=by rw [hc];simp
 obtain ⟨hcc,h1,h2,h3⟩:=(Aph h).1 hm
 refine ⟨(Rg hg hn h).2 ⟨hcc,fun hh=>h2 hh.symm⟩,fun q hq=> ?_⟩
 obtain ⟨hqc,hqn⟩:=(Rg hg hn h).1 hq
 obtain ⟨d,hd,hf⟩:=Azf h (T8 hg hn) (Vf n (Ce n)-Vf n q) q hqc (Gs q) (fun hh=>hqn hh.symm) (Nat.le_refl _)
 rw [hc] at hd
 rw [List.mem_singleton.1 hd] at hf
 exact hf
theorem Al3 (hg:Cf a) (hn:a.Size=n) (h:FewC a n O):E9 O=some (Ad8 (Jn n O (Ce n))):=by
 have h8:=hg.2.1
 have hle:=h.le
 have hpos:1≤O.length:=by
  obtain ⟨tl,e⟩:=Y6 hg hn h.cl
  rw [e];simp
 have e0:List.take ((O.length:Int).toNat-Int.toNat 1) (List.drop (Int.toNat 1) O)=O.drop 1:=List.take_of_length_le (by simp)
 have hok : ∀q∈O.drop 1,okP n q:=fun q hq=>h.cl.ok q (List.mem_of_mem_drop hq)
 have htl:(O.drop 1).length≤200:=by simp;omega
 unfold E9
 rw [Ae (by omega)]
 have inner : ∀i,i<(O.drop 1).length→Al (Dr O (i:Int)) (0,true)=some ((O.drop 1).all fun q=>decide (Bs n (nth (O.drop 1) i) q)):=by
  intro i hi
  obtain ⟨t,e,ht⟩:=C8 (body:=Dr O (i:Int)) (fun s => ∃j:Nat,s=((j:Int),((O.drop 1).take j).all fun q=>decide (Bs n (nth (O.drop 1) i) q))∧j≤(O.drop 1).length) (fun s=>(O.drop 1).length-s.1.toNat) (fun t=>t=(O.drop 1).all fun q=>decide (Bs n (nth (O.drop 1) i) q)) (by
   rintro s ⟨j,rfl,hj⟩
   unfold Dr
   dsimp only
   rw [e0]
   by_cases hjl:j<(O.drop 1).length
   ·have es:((O.drop 1).take (j+1)).all (fun q=>decide (Bs n (nth (O.drop 1) i) q))=((((O.drop 1).take j).all fun q=>decide (Bs n (nth (O.drop 1) i) q))&&decide (Bs n (nth (O.drop 1) i) (nth (O.drop 1) j))):=by
     rw [Lt hjl,List.all_append];simp
    rw [if_pos (by omega),Ae (by omega),tna0,tna0]
    cases hb:((O.drop 1).take j).all fun q=>decide (Bs n (nth (O.drop 1) i) q) with
    | true=>
      rw [if_pos rfl,Acr (hok _ (Ak hi)) (hok _ (Ak hjl)) (by omega)]
      simp only [obs0]
      rw [Ae (by unfold InI;omega)]
      exact .inl ⟨_,rfl,⟨j+1,by rw [es,hb,Bool.true_and];rfl,hjl⟩,by dsimp only;omega⟩
    | false=>
      rw [if_neg (by simp),Ae (by unfold InI;omega)]
      exact .inl ⟨_,rfl,⟨j+1,by rw [es,hb,Bool.false_and];rfl,hjl⟩,by dsimp only;omega⟩
   ·rw [if_neg (by omega),List.take_of_length_le (by omega)]
    exact .inr ⟨_,rfl,rfl⟩) (s:=((0:Int),true)) ⟨0,rfl,Nat.zero_le _⟩
  rw [e,ht]
 have under : ∀i,((O.drop 1).all fun q=>decide (Bs n (nth (O.drop 1) i) q))=true ↔ ∀q∈O.drop 1,Bs n (nth (O.drop 1) i) q:=fun i=>by
  rw [List.all_eq_true]
  exact ⟨fun hh q hq=>of_decide_eq_true (hh q hq),fun hh q hq=>dtr0 (hh q hq)⟩
 rcases Afh (body:=B4 O) (fun i=>(i:Int)) (O.drop 1).length (fun i => ∀q∈O.drop 1,Bs n (nth (O.drop 1) i) q) (fun i=> .inl (nth (O.drop 1) i)) (.inr ()) (fun i hi hh=>by
  unfold B4
  rw [e0,if_pos (by omega),Ae (by omega),Ae (by omega),inner i hi]
  simp only [obs0]
  rw [if_neg (fun hc=>hh ((under i).1 hc)),Ae (by unfold InI;omega)];rfl) (fun i hi hh=>by
  unfold B4
  rw [e0,if_pos (by omega),Ae (by omega),Ae (by omega),inner i hi]
  simp only [obs0]
  rw [if_pos ((under i).2 hh),tna0]) (by
  unfold B4
  rw [e0,if_neg (by omega)]) with ⟨i,hi,hh,_,e⟩ | ⟨hno,e⟩
 ·have e':Al (B4 O) 0=_:=e
  rw [e',Ave hg hn h.cl (Ak hi) hh]
  rfl
 ·have e':Al (B4 O) 0=_:=e
  rw [e']
  cases hc:Ad8 (Jn n O (Ce n)) with
  | none=>rfl
  | some c=>
    obtain ⟨m1,m2⟩:=Aqy hg hn h.cl (P1 hc)
    obtain ⟨i,hi,ei⟩:=G6.1 m1
    exact absurd (by rw [ei];exact m2) (hno i hi)
noncomputable def Zp (n:Nat) (O:List (List Int)):List Int×Bool:=match Ad8 (Jn n O (Ce n)) with | some c=>(c,true) | none=>(Aw Int,false)
theorem Az1 (h:FewC a n O) (h8:n≤8):(Zp n O).1.length≤8:=by
 unfold Zp
 cases hc:Ad8 (Jn n O (Ce n)) with
 | none=>simp [Aw]
 | some c=>
   have:=P1 hc
   exact (Asr h h8 (Ce n)).2 c (by rw [this];simp)
theorem FewC.mono (h:FewC a n O) (hs:Rb a) (hg:Cf a) (hn:a.Size=n):D1 a=some (Zp n O)∧D0 a=some (Zp n O)∧Cr a=some ((Zp n O).2,true):=by
 have h1:=hg.1
 have h8:=hg.2.1
 have hle:=h.le
 have hrow : ∀c,Ad8 (Jn n O (Ce n))=some c→c.length=n:=fun c hc=>by
  have:=P1 hc
  have hm:c∈Jn n O (Ce n):=by rw [this];simp
  exact (h.cl.ok c (List.mem_filter.1 hm).1).1
 have hM:=Al3 hg hn h
 refine ⟨?_,?_,?_⟩
 ·unfold D1 Zp
  rw [h.impl hs hg]
  simp only [obs0,if_true]
  rw [hM]
  cases hc:Ad8 (Jn n O (Ce n)) with
  | none=>rfl
  | some c=>
    have:=hrow c hc
    simp only [obs0]
    rw [Ae (by omega)]
 ·unfold D0 Ho Zp
  rw [h.few hs hg]
  simp only [obs0,if_true]
  rw [h.all,hn,Vk (by omega)]
  simp only [obs0]
  rw [Af2 h.cl.ok (by omega) (Ac4 n) (by omega)]
  simp only [obs0]
  cases hc:Ad8 (Jn n O (Ce n)) with
  | none=>
    have:=Amz hc
    rw [if_pos (by omega)]
    rfl
  | some c=>
    have hl:=hrow c hc
    rw [P1 hc,if_neg (by simp),Ae (by simp),show nth [c] (Int.toNat 0)=c from rfl]
    simp only [obs0]
    rw [dtr0 (by omega)]
 ·unfold Cr Zp
  rw [h.impl hs hg]
  simp only [obs0,if_true]
  rw [hM]
  cases hc:Ad8 (Jn n O (Ce n)) with
  | none=>rfl
  | some c=>
    have:=hrow c hc
    simp only [obs0]
    rw [Ae (by omega)]
theorem FewC.simple (h:FewC a n O) (hs:Rb a) (hg:Cf a):Fj a=some (((O.length:Int)==2),true)∧Fi a=some (((O.length:Int)==2),true):=by
 constructor
 ·unfold Fj
  rw [h.impl hs hg];rfl
 ·unfold Fi
  rw [h.few hs hg]
  simp only [obs0,if_true]
  rw [h.all];rfl
theorem FewC.allC (h:FewC a n O) (hs:Rb a) (hg:Cf a):Ef a=some (O,true)∧Ed a=some (O,true):=by
 constructor
 ·unfold Ef
  rw [h.impl hs hg];rfl
 ·unfold Ed
  rw [h.few hs hg]
  simp only [obs0,if_true]
  rw [h.all];rfl
noncomputable def V4 (n:Nat) (O:List (List Int)) (i k:Nat):Bool:=decide (i≠k)&&decide (Bs n (nth O i) (nth O k))
theorem A5o (hok : ∀r∈O,okP n r) (h8:n≤8) {i k:Nat} (hi:i<O.length) (hk:k<O.length):B9 i k O=some (V4 n O i k):=by
 unfold B9 V4
 by_cases h:i=k
 ·rw [if_neg (by omega),dfa0 (by omega),Bool.false_and]
 ·rw [if_pos (by omega),Ae (by omega),Ae (by omega),tna0,tna0,Acr (hok _ (Ak hi)) (hok _ (Ak hk)) (by omega),dtr0 h,Bool.true_and]
  rfl
end
theorem Aqz {s1 s2:List (List Int)→Int→List Bool→List Int→Option (Bool×List Bool×List Int)} (h : ∀l i s m,LeO (s1 l i s m) (s2 l i s m)) (l:List (List Int)) (i:Int) (s:List Bool) (m:List Int):LeO (Cx s1 l i s m) (Cx s2 l i s m):=by
 unfold Cx
 refine LeO.bind (LeO.loop (fun q=> ?_) _) fun _=>LeO.refl _
 obtain ⟨x,y,z⟩:=q
 unfold Bi
 dsimp only
 refine LeO.ite (LeO.bind (LeO.refl _) fun t=> ?_) (LeO.refl _)
 cases t with
 | inl _=>exact LeO.refl _
 | inr _=>exact LeO.ask (LeO.ask (LeO.ite (LeO.refl _) (LeO.ask (LeO.bind (h _ _ _ _) fun _=>LeO.refl _))))
theorem Awp (l:List (List Int)) (i:Int) (s:List Bool) (m:List Int):upO fun k=>Be k l i s m:=by
 have step : ∀k l i s m,LeO (Be k l i s m) (Be (k+1) l i s m):=by
  intro k
  induction k with
  | zero=>intro l i s m v e;cases e
  | succ k ih=>intro l i s m;exact Aqz ih l i s m
 exact Anx fun k=>step k l i s m
section
variable {w:Nat} {O:List (List Int)} {n:Nat} (hn:n≤1000000) (hO:O.length=n) (hok : ∀r∈O,okP w r) (hw8:w≤8)
include hn hO hok hw8
theorem As4 {f:Nat} {i k:Nat} {s:List Bool} {m:List Int} (hi:i<n) (hk:k<n) (hs:s.length=n) (h:nth s k=true∨V4 w O i k=false):Bi (Be f) O i ((k:Int),s,m)=some (.inl (((k+1:Nat):Int),s,m)):=by
 unfold Bi
 dsimp only
 rw [if_pos (by omega)]
 by_cases hik:k=i
 ·rw [if_pos (by omega)]
  simp only [obs0]
  rw [Ae (by unfold InI;omega)]
  rfl
 ·rw [if_neg (by omega),Ae (by omega),tna0]
  by_cases hb:nth s k=true
  ·rw [if_pos hb]
   simp only [obs0]
   rw [Ae (by unfold InI;omega)]
   rfl
  ·rcases h with h | h
   ·exact absurd h hb
   ·unfold V4 at h
    rw [dtr0 (show i≠k from fun hh=>hik hh.symm),Bool.true_and] at h
    rw [if_neg hb,Ae (by omega),Ae (by omega),tna0,Rc (hok _ (Ak (by omega))) (hok _ (Ak (by omega))) (by omega),h]
    simp only [obs0,Bool.false_eq_true,if_false]
    rw [Ae (by unfold InI;omega)]
    rfl
theorem Ayh {f:Nat} {i k:Nat} {s:List Bool} {m:List Int} (hi:i<n) (hk:k<n) (hs:s.length=n) (hml:m.length=n) (hb:nth s k=false) (he:V4 w O i k=true):Bi (Be f) O i ((k:Int),s,m)=(if nth m k<0 then some (.inr (.inl (s.set k true,m.set k (i:Int)))) else (Be f O (nth m k) (s.set k true) m).bind fun (r,u,v)=>if r=true then ask (0≤(k:Int)∧(k:Int)<(v.length:Int))<|some (.inr (.inl (u,v.set k (i:Int)))) else some (.inl (((k+1:Nat):Int),u,v))):=by
 unfold V4 at he
 rw [Bool.and_eq_true] at he
 have hik:=of_decide_eq_true he.1
 unfold Bi
 dsimp only
 rw [if_pos (by omega),if_neg (by omega),Ae (by omega),tna0,if_neg (by simp [hb]),Ae (by omega),Ae (by omega),tna0,Rc (hok _ (Ak (by omega))) (hok _ (Ak (by omega))) (by omega),he.2]
 simp only [obs0,if_true]
 rw [Ae (by omega),Ae (by omega),Ae (by omega),Ae (by omega)]
 by_cases h0:nth m k<0
 ·rw [if_pos h0,if_pos h0]
 ·rw [if_neg h0,if_neg h0]
  congr 1
  funext p
  obtain ⟨r,u,v⟩:=p
  dsimp only
  by_cases hr:r=true
  ·rw [if_pos hr,if_pos hr]
  ·rw [if_neg hr,if_neg hr,Ae (by unfold InI;omega)]
   rfl
theorem Auq : ∀(u:Nat) (i:Nat) (s:List Bool) (m:List Int),i<n→s.length=n→MtOk n (V4 w O) m→Mq n s≤u →
  ∃o s' m',Be (u+1) O i s m=some (o,s',m')∧TryL n (V4 w O) 0 i s m o s' m':=by
 intro u
 induction u using Nat.strongRecOn with
 | ind u ihu=>
   intro i s m hi hs hm hu
   have inner : ∀d k (s:List Bool),k+d=n→s.length=n→Mq n s≤u → ∃o s' m',Al (Bi (Be u) O i) ((k:Int),s,m)=some (if o=true then .inl (s',m') else .inr (s',m'))∧TryL n (V4 w O) k i s m o s' m':=by
    intro d
    induction d with
    | zero=>
      intro k s hk hs hu
      have:k=n:=by omega
      subst this
      refine ⟨false,s,m,D4 ?_,.done i s m⟩
      unfold Bi
      dsimp only
      rw [if_neg (by omega)]
      rfl
    | succ d ih=>
      intro k s hk hs hu
      have hml:=hm.len
      have skip:(nth s k=true∨V4 w O i k=false) → ∃o s' m',Al (Bi (Be u) O i) ((k:Int),s,m)=some (if o=true then .inl (s',m') else .inr (s',m'))∧TryL n (V4 w O) k i s m o s' m':=by
       intro hsk
       obtain ⟨o,s',m',e,t⟩:=ih (k+1) s (by omega) hs hu
       refine ⟨o,s',m',?_,.skip (by omega) hsk t⟩
       rw [Gc (As4 hn hO hok hw8 hi (by omega) hs hsk)]
       exact e
      cases hb:nth s k with
      | true=>exact skip (.inl hb)
      | false=>
        cases he:V4 w O i k with
        | false=>exact skip (.inr he)
        | true=>
          have hset:(s.set k true).length=n:=by rw [List.length_set];exact hs
          have hun:=Akr hs (show k<n by omega) hb
          have go:=Ayh (f:=u) hn hO hok hw8 hi (show k<n by omega) hs hml hb he
          rcases hm.own k (by omega) with hf | ⟨j,hj,hf,_⟩
          ·refine ⟨true,s.set k true,m.set k (i:Int),D4 ?_,.free (by omega) hb he hf⟩
           rw [go,if_pos (by omega)]
           rfl
          ·obtain ⟨v,rfl⟩ : ∃v,u=v+1:=⟨u-1,by omega⟩
           obtain ⟨o1,s1,m1,e1,t1⟩:=ihu v (by omega) j (s.set k true) m hj hset hm (by omega)
           have q:=t1.out hset hm hj
           rw [if_neg (by omega),hf,e1] at go
           simp only [obs0] at go
           cases o1 with
           | true=>
             have hm1:=q.2.2.1.len
             rw [if_pos rfl,Ae (by omega)] at go
             exact ⟨true,s1,m1.set k (i:Int),D4 go,.push (by omega) hb he hf t1⟩
           | false=>
             have em:=q.2.2.2.2.2 rfl
             subst em
             rw [if_neg (by simp)] at go
             have hu1:Mq n s1≤v+1:=by
              have:=Af5 (n:=n) (s:=s.set k true) (s':=s1) q.2.1
              omega
             obtain ⟨o,s',m',e,t⟩:=ih (k+1) s1 (by omega) q.1 hu1
             refine ⟨o,s',m',?_,.back (by omega) hb he hf t1 t⟩
             rw [Gc go]
             exact e
   obtain ⟨o,s',m',e,t⟩:=inner n 0 s (by omega) hs hu
   refine ⟨o,s',m',?_,t⟩
   show Cx (Be u) O i s m=_
   unfold Cx
   have e':Al (Bi (Be u) O i) (0,s,m)=_:=e
   rw [e']
   cases o<;>rfl
theorem Aq1 : ∃m S D,H3 O=some ((n:Int)-(Ch n S:Nat))∧MtInv n (V4 w O) n m S D:=by
 have hL:=Bn
 unfold H3
 have k1:=Fm (body:=Dk O) (fun i=>((i:Int),List.replicate i (-1:Int))) n (List.replicate n (-1)) (fun i hi=>by
  unfold Dk
  dsimp only
  rw [if_pos (by omega),Ae (by simp;omega),Ae (by unfold InI;omega),List.replicate_succ']
  rfl) (by
  unfold Dk
  dsimp only
  rw [if_neg (by omega)])
 have k1':Al (Dk O) (0,Aw Int)=some (List.replicate n (-1)):=k1
 rw [k1']
 simp only [obs0]
 obtain ⟨t,e,m,S,D,h1,h2⟩:=C8 (body:=F4 O) (fun s => ∃(i:Nat) (S D:Nat→Bool),s.1=(i:Int)∧i≤n∧MtInv n (V4 w O) i s.2.2 S D∧(∀j,i≤j→S j=false)∧s.2.1=(n:Int)-(Ch n S:Nat)) (fun s=>n-s.1.toNat) (fun t => ∃m S D,t=(n:Int)-(Ch n S:Nat)∧MtInv n (V4 w O) n m S D) (by
  rintro ⟨x,c,m⟩ ⟨i,S,D,rfl,hi,hM,hS,hw⟩
  dsimp only at hM hw
  have hcn:=Ao8 n S
  unfold F4
  dsimp only
  by_cases hin:i<n
  ·obtain ⟨o,s',m',e,t⟩:=Auq hn hO hok hw8 (Mq n (List.replicate n false)) i (List.replicate n false) m hin (by simp) hM.ok (Nat.le_refl _)
   have e2:(Amk fun k=>Be k O i (List.replicate n false) m)=some (o,s',m'):=Av5 (Awp O i (List.replicate n false) m) e
   obtain ⟨D',hM'⟩:=hM.step hin t
   rw [if_pos (by omega),Ae (by omega),tna0,hO,e2]
   simp only [obs0]
   have hS' : ∀j,i+1≤j→(if j=i then o else S j)=false:=fun j hj=>by rw [if_neg (by omega)];exact hS j (by omega)
   cases o with
   | true=>
     have hc:Ch n (fun j=>if j=i then true else S j)=Ch n S+1:=Qk hin (hS i (Nat.le_refl _)) (by simp) fun j hj hne=>by rw [if_neg hne]
     rw [if_pos rfl,Ae (by unfold InI;omega),Ae (by unfold InI;omega)]
     exact .inl ⟨_,rfl,⟨i+1,_,D',rfl,hin,hM',hS',by dsimp only;omega⟩,by dsimp only;omega⟩
   | false=>
     have hc:Ch n (fun j=>if j=i then false else S j)=Ch n S:=Kw fun j hj=>by
      by_cases h:j=i
      ·rw [if_pos h,h];exact (hS i (Nat.le_refl _)).symm
      ·rw [if_neg h]
     rw [if_neg (by simp),Ae (by unfold InI;omega)]
     exact .inl ⟨_,rfl,⟨i+1,_,D',rfl,hin,hM',hS',by dsimp only;omega⟩,by dsimp only;omega⟩
  ·have:i=n:=by omega
   subst this
   rw [if_neg (by omega)]
   exact .inr ⟨_,rfl,m,S,D,hw,hM⟩) (s:=((0:Int),(O.length:Int),List.replicate n (-1))) ⟨0,fun _=>false,fun _=>false,rfl,Nat.zero_le _,MtInv.start n _,fun _ _=>rfl,by rw [Anl];dsimp only;omega⟩
 rw [e]
 exact ⟨m,S,D,congrArg some h1,h2⟩
end
theorem Atk {α:Type} [Inhabited α] (L:List α) (f:α→Bool):(L.filter f).length=Ch L.length fun k=>f (nth L k):=by
 have key : ∀i,i≤L.length→((L.take i).filter f).length=Ch i fun k=>f (nth L k):=by
  intro i
  induction i with
  | zero=>intro _;rfl
  | succ i ih=>
    intro hi
    rw [Lt hi,List.filter_append,List.length_append,ih (by omega),Gn]
    cases h:f (nth L i)<;>simp [h]
 have:=key L.length (Nat.le_refl _)
 rwa [List.take_of_length_le (Nat.le_refl _)] at this
section
variable {a:SAlgebra} {n:Nat} {O:List (List Int)}
theorem A0k (hg:Cf a) (hn:a.Size=n) (h:O4 a n O) {m:List Int} {S D:Nat→Bool} (hM:MtInv O.length (V4 n O) O.length m S D):Ch O.length S+(Jn n O (Ce n)).length≤O.length∧Ch O.length S+1≤O.length:=by
 obtain ⟨tl,eO⟩:=Y6 hg hn h
 have h0:0<O.length:=by rw [eO];simp
 have e0:nth O 0=Ce n:=by rw [eO];rfl
 have hinj : ∀i j,i<O.length→j<O.length→nth O i=nth O j→i=j:=fun i j hi hj e=>by
  have hd:=h.1.nodup
  rw [C2 hi,C2 hj] at e
  exact (List.getElem_inj hd).1 e
 have hcong : ∀i,i<O.length→Gq a n (nth O i):=fun i hi=>(h.2 _).1 (Ak hi)
 have hsz:=hM.size
 have hnot:=Ayv O.length fun k=>decide (nth m k ≠ -1)
 unfold Av6 at hsz
 have free0:nth m 0 = -1:=by
  rcases hM.ok.own 0 h0 with hf | ⟨j,hj,hf,he⟩
  ·exact hf
  ·unfold V4 at he
   rw [Bool.and_eq_true] at he
   have h1:=of_decide_eq_true he.1
   have h2:=of_decide_eq_true he.2
   rw [e0] at h2
   have:=Mt (hcong j hj).1 (E5 n) h2 (Gs _)
   exact absurd (hinj j 0 hj h0 (by rw [this,e0])) h1
 have hone:Ch O.length S+1≤O.length:=by
  have:=Ac7 (p:=fun k => !decide (nth m k ≠ -1)) h0 (by rw [free0];rfl)
  omega
 refine ⟨?_,hone⟩
 have hcov:(Jn n O (Ce n)).length=Ch O.length fun k=>decide (Alp n O (Ce n) (nth O k)):=by
  unfold Jn;exact Atk O _
 have own0 : ∀k,k<O.length→Alp n O (Ce n) (nth O k)→nth m k ≠ -1→nth m k=0:=fun k hk hc hm=>by
  rcases hM.ok.own k hk with hf | ⟨j,hj,hf,he⟩
  ·exact absurd hf hm
  ·unfold V4 at he
   rw [Bool.and_eq_true] at he
   have h1:=of_decide_eq_true he.1
   have h2:=of_decide_eq_true he.2
   rcases hc.2.2 (nth O j) (Ak hj) (Gs _) h2 with e | e
   ·have:j=0:=hinj j 0 hj h0 (by rw [e,e0])
    rw [hf,this];rfl
   ·exact absurd (hinj j k hj hk e) h1
 have hle:(Ch O.length fun k=>decide (Alp n O (Ce n) (nth O k)))≤Ch O.length fun k => !decide (nth m k ≠ -1):=by
  refine Yg (fun k=>if nth m k = -1 then k else 0) (fun k hk hp=> ?_) fun i j hi hj hp hq e=> ?_
  ·by_cases hf:nth m k = -1
   ·rw [if_pos hf];exact ⟨hk,by rw [hf];rfl⟩
   ·rw [if_neg hf];exact ⟨h0,by rw [free0];rfl⟩
  ·have hp:=of_decide_eq_true hp
   have hq:=of_decide_eq_true hq
   have nz : ∀k,Alp n O (Ce n) (nth O k)→k≠0:=fun k hc e=>by
    subst e
    exact hc.2.1 e0.symm
   by_cases h1:nth m i = -1
   ·rw [if_pos h1] at e
    by_cases h2:nth m j = -1
    ·rw [if_pos h2] at e;exact e
    ·rw [if_neg h2] at e;exact absurd e (nz i hp)
   ·rw [if_neg h1] at e
    by_cases h2:nth m j = -1
    ·rw [if_pos h2] at e;exact absurd e.symm (nz j hq)
    ·exact hM.one.inj hi hj (j:=0) (own0 i hi hp h1) (own0 j hj hq h2)
 omega
theorem FewC.width (h:FewC a n O) (hs:Rb a) (hg:Cf a) (hn:a.Size=n) : ∃w:Int,Bu a=some (w,true)∧Bv a=some (w,true)∧((Jn n O (Ce n)).length:Int)≤w∧1≤w∧w≤O.length:=by
 have h8:=hg.2.1
 have hle:=h.le
 obtain ⟨m,S,D,e1,h1⟩:=At7 (n:=O.length) (E:=V4 n O) (by omega) (less:=fun w_0 w_1=>B9 w_0 w_1 O) (fun i k hi hk=>A5o h.cl.ok (by omega) hi hk)
 obtain ⟨m',S',D',e2,h2⟩:=Aq1 (w:=n) (O:=O) (n:=O.length) (by omega) rfl h.cl.ok (by omega)
 have hs':=A2v h1 h2
 obtain ⟨g1,g2⟩:=A0k hg hn h.cl h1
 refine ⟨(O.length:Int)-(Ch O.length S:Nat),?_,?_,by omega,by omega,by omega⟩
 ·unfold Bu
  rw [h.impl hs hg]
  simp only [obs0,if_true]
  rw [e1];rfl
 ·unfold Bv
  rw [h.few hs hg]
  simp only [obs0,if_true]
  rw [h.all]
  simp only [obs0]
  rw [e2,hs'];rfl
end
theorem Awn {n:Nat} {p:List Int} (hn:n≤1000) (hp:Bz n p) : ∃B,Hy p=some B∧B.length=Vf n p:=by
 have hL:=Bn
 have hpl:=hp.1
 unfold Hy
 rw [Ae (by omega),tna0,hpl]
 obtain ⟨t,e,ht⟩:=C8 (body:=F1 p) (fun s => ∃i:Nat,s.1=(i:Int)∧i≤n∧s.2.1.length=Ch i (fun j=>decide (nth p j=(j:Int)))∧(∀r∈s.2.1,r.length≤i)∧s.2.2.length=n ∧ ∀j,j<i→nth p j=(j:Int)→0≤nth s.2.2 j∧nth s.2.2 j<s.2.1.length) (fun s=>n-s.1.toNat) (fun t=>t.length=Ch n fun j=>decide (nth p j=(j:Int))) (by
  rintro ⟨x,B,P⟩ ⟨i,rfl,hi,h1,h2,h3,h4⟩
  dsimp only at h1 h2 h3 h4
  have hcl:=Ao8 i fun j=>decide (nth p j=(j:Int))
  unfold F1
  dsimp only
  by_cases hin:i<n
  ·obtain ⟨q1,q2,q3⟩:=hp.2 i hin
   rw [if_pos (by omega),Ae (by omega),tna0]
   have fin : ∀(B':List (List Int)) (P':List Int),B'.length=Ch (i+1) (fun j=>decide (nth p j=(j:Int)))→(∀r∈B',r.length≤i)→P'.length=n→(∀j,j<i+1→nth p j=(j:Int)→0≤nth P' j∧nth P' j<B'.length) →
     ((∃s',(ask (0≤nth p i∧nth p i<(P'.length:Int))<|ask (0≤nth P' (nth p i).toNat∧nth P' (nth p i).toNat<(B'.length:Int))<|ask ((nth B' (nth P' (nth p i).toNat).toNat).length+([(i:Int)]).length≤LIM)<|ask (InI ((i:Int)+1))<|(some (.inl ((i:Int)+1,B'.set (nth P' (nth p i).toNat).toNat (nth B' (nth P' (nth p i).toNat).toNat++[(i:Int)]),P')):Option ((Int×List (List Int)×List Int) ⊕ List (List Int))))=some (.inl s')∧(∃i':Nat,s'.1=(i':Int)∧i'≤n∧s'.2.1.length=Ch i' (fun j=>decide (nth p j=(j:Int)))∧(∀r∈s'.2.1,r.length≤i')∧s'.2.2.length=n ∧ ∀j,j<i'→nth p j=(j:Int)→0≤nth s'.2.2 j∧nth s'.2.2 j<s'.2.1.length)∧n-s'.1.toNat<n-i)):=by
    intro B' P' g1 g2 g3 g4
    have hr:=g4 (nth p i).toNat (by omega) (by rw [q3];omega)
    have hb:=g2 _ (Ak (show (nth P' (nth p i).toNat).toNat<B'.length by omega))
    rw [Ae (by omega),Ae (by omega),Ae (by simp only [List.length_cons,List.length_nil];omega),Ae (by unfold InI;omega)]
    refine ⟨_,rfl,⟨i+1,rfl,hin,by dsimp only;rw [List.length_set];exact g1,fun r hr'=> ?_,g3,fun j hj hj'=> ?_⟩,by dsimp only;omega⟩
    ·rcases List.mem_or_eq_of_mem_set hr' with h | h
     ·have:=g2 r h;omega
     ·rw [h,List.length_append];simp only [List.length_cons,List.length_nil];omega
    ·dsimp only
     rw [List.length_set];exact g4 j hj hj'
   have simpl : ∀(B':List (List Int)) (P':List Int) {q:Option ((Int×List (List Int)×List Int) ⊕ List (List Int))},q=(ask (0≤nth p i∧nth p i<(P'.length:Int))<|ask (0≤nth P' (nth p i).toNat∧nth P' (nth p i).toNat<(B'.length:Int))<|ask ((nth B' (nth P' (nth p i).toNat).toNat).length+([(i:Int)]).length≤LIM)<|ask (InI ((i:Int)+1))<|(some (.inl ((i:Int)+1,B'.set (nth P' (nth p i).toNat).toNat (nth B' (nth P' (nth p i).toNat).toNat++[(i:Int)]),P')):Option ((Int×List (List Int)×List Int) ⊕ List (List Int))))→B'.length=Ch (i+1) (fun j=>decide (nth p j=(j:Int)))→(∀r∈B',r.length≤i)→P'.length=n→(∀j,j<i+1→nth p j=(j:Int)→0≤nth P' j∧nth P' j<B'.length)→(∃s',q=some (.inl s')∧(∃i':Nat,s'.1=(i':Int)∧i'≤n∧s'.2.1.length=Ch i' (fun j=>decide (nth p j=(j:Int)))∧(∀r∈s'.2.1,r.length≤i')∧s'.2.2.length=n ∧ ∀j,j<i'→nth p j=(j:Int)→0≤nth s'.2.2 j∧nth s'.2.2 j<s'.2.1.length)∧n-s'.1.toNat<n-i):=by
    intro B' P' q hq g1 g2 g3 g4
    rw [hq];exact fin B' P' g1 g2 g3 g4
   by_cases hr:nth p i=(i:Int)
   ·have hsucc:Ch (i+1) (fun j=>decide (nth p j=(j:Int)))=Ch i (fun j=>decide (nth p j=(j:Int)))+1:=by
     rw [Gn,if_pos (dtr0 hr)]
    rw [if_pos hr,Ae (by omega),Ae (by simp;omega)]
    simp only [obs0]
    refine .inl (simpl (B++[Aw Int]) (P.set i (B.length:Int)) ?_ (by simp;omega) (fun r hr'=> ?_) (by rw [List.length_set];exact h3) (fun j hj hj'=> ?_))
    ·have hlen:(P.set i (B.length:Int)).length=n:=by rw [List.length_set];exact h3
     have hr1:nth (P.set i (B.length:Int)) (nth p i).toNat=(B.length:Int):=by
      rw [hr,tna0,E4 _ _ _ _ (by omega),if_pos rfl]
     have g1:0≤nth p i∧nth p i<((P.set i (B.length:Int)).length:Int):=by omega
     have g2:0≤nth (P.set i (B.length:Int)) (nth p i).toNat∧nth (P.set i (B.length:Int)) (nth p i).toNat<((B++[Aw Int]).length:Int):=by
      rw [hr1];simp;omega
     repeat rw [Ae g1]
     repeat rw [Ae g2]
    ·rcases List.mem_append.1 hr' with h | h
     ·exact h2 r h
     ·rw [List.mem_singleton.1 h];simp [Aw]
    ·rw [E4 _ _ _ _ (by omega)]
     by_cases hji:i=j
     ·rw [if_pos hji];simp;omega
     ·rw [if_neg hji]
      have:=h4 j (by omega) hj'
      simp;omega
   ·have hsucc:Ch (i+1) (fun j=>decide (nth p j=(j:Int)))=Ch i (fun j=>decide (nth p j=(j:Int))):=by
     rw [Gn,if_neg (by simpa using hr)];rfl
    rw [if_neg hr]
    simp only [obs0]
    have hr4 : ∀j,j<i+1→nth p j=(j:Int)→0≤nth P j∧nth P j<B.length:=fun j hj hj'=>by
     by_cases hji:j=i
     ·subst hji;exact absurd hj' hr
     ·exact h4 j (by omega) hj'
    have g1:0≤nth p i∧nth p i<(P.length:Int):=by omega
    have g2:=hr4 (nth p i).toNat (by omega) (by rw [q3];omega)
    refine .inl (simpl B P ?_ (by omega) h2 h3 hr4)
    repeat rw [Ae g1]
    repeat rw [Ae g2]
  ·have:i=n:=by omega
   subst this
   rw [if_neg (by omega)]
   exact .inr ⟨_,rfl,h1⟩) (s:=((0:Int),Aw (List Int),List.replicate n 0)) ⟨0,rfl,Nat.zero_le _,by simp [Ch,Aw],fun r hr=>by simp [Aw] at hr,by simp,fun j hj=>by omega⟩
 refine ⟨t,by rw [e];rfl,?_⟩
 rw [ht]
 unfold Vf Wm Ct Ch
 rw [List.length_map]
end Go.Proofs.YtjcekpmojnnmbaaGreat.Ax
