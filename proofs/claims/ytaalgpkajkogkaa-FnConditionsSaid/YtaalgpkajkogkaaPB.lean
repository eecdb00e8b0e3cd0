/-
 Plain facts, joined.
-/
import Derived.Test.YtaalgpkajkogkaaPA
namespace Go.Proofs.Ytaalgpkajkogkaa.Ax
open Go Classical
def A82 (m i:Nat):Bool:=decide (m/2^i%2=1)
def A81 (f:Nat->Nat->Bool) (ls:List Int):Prop := ∀x∈ls,∀y∈ls,¬(x.toNat≠y.toNat/\f x.toNat y.toNat=true)
def pc (n m:Nat):Nat:=(Vn n (A82 m)).length
theorem A0z {q q':Nat->Bool} {x:Nat} (hq:q x=false) (h : ∀i,q' i=(q i || decide (x=i))) : ∀n,(Vn n q').length=(Vn n q).length+if x<n then 1 else 0:=by
 intro n
 induction n with
 | zero=>simp [Vn]
 | succ n ih=>
   rw [Apc,Apc,h n];by_cases hxn:x=n
   ·subst hxn;rw [hq];simp only [decide_true,Bool.or_true,if_true,Bool.false_eq_true,if_false];rw [List.length_append,ih,in0 (by omega),ip0 (by omega)];rfl
   ·rw [dfa0 hxn,Bool.or_false];by_cases hqn:q n=true
    ·rw [ip0 hqn,ip0 hqn,List.length_append,List.length_append,ih];by_cases hx:x<n
     ·rw [ip0 hx,ip0 (by omega)];simp
     ·rw [in0 hx,in0 (by omega)];rfl
    ·rw [in0 hqn,in0 hqn,ih];by_cases hx:x<n
     ·rw [ip0 hx,ip0 (by omega)]
     ·rw [in0 hx,in0 (by omega)]
def wt (n m:Nat):Nat:=10^(10-pc n m)
def phi (n:Nat) (ws:List Int):Nat->Nat->Int
 | _,0=>0
 | M,k+1=>nth ws M*wt n M+phi n ws (M+1) k
section
variable {n:Nat} {f:Nat->Nat->Bool}
structure okW (n m:Nat) (ws:List Int):Prop where
 len:ws.length=2^n
 pos : ∀i,i<ws.length->0<=nth ws i
 sum:phi n ws m (2^n-m)<=10000000000
end
noncomputable def round (n:Nat) (g h:Nat->Nat->Nat) (S:Nat->Bool):Nat->Bool:=λz=>decide (S z=true \/ ∃x y,x<n/\y<n/\S x=true/\S y=true/\(z=g x y\/z=h x y))
noncomputable def Aub (n:Nat) (g h:Nat->Nat->Nat) (S:Nat->Bool):Nat->Nat->Bool
 | 0=>S
 | k+1=>round n g h (Aub n g h S k)
section
variable {n:Nat} {g h:Nat->Nat->Nat} {S:Nat->Bool}
def A83 (n:Nat) (g h:Nat->Nat->Nat) (S:Nat->Bool) (k:Nat):Prop := ∀z,z<n->Aub n g h S (k+1) z=Aub n g h S k z
noncomputable def closed (n:Nat) (g h:Nat->Nat->Nat) (S:Nat->Bool):Nat->Bool:=Aub n g h S n
end
theorem Aoz {xs ys:List Int} (h:xs.length<=LIM):M3 xs ys=some (decide (xs=ys)):=by
 unfold M3;rw [Ba] at h;split
 ·rename_i hl;rw [dfa0];rintro rfl;exact hl rfl
 rename_i hl;have hl:xs.length=ys.length:=by omega
 have:=Fo (body:=F9 xs ys) (λi=>(i:Int)) xs.length (λi=>¬nth xs i=nth ys i) () () (λi hi hb=>by
  unfold F9;rw [ip0 (by omega),Ag (by omega),Ag (by omega)];simp only [tna0];rw [in0 (by simpa using hb),Ag (by omega)];rfl) (λi hi hb=>by
  unfold F9;rw [ip0 (by omega),Ag (by omega),Ag (by omega)];simp only [tna0];rw [ip0 hb]) (by unfold F9;rw [in0 (by omega)]) 0 (by omega)
 show ((Aq _ ((0:Nat):Int)).bind _)=_;rw [this];by_cases hx : ∃i,0<=i/\i<xs.length/\¬nth xs i=nth ys i
 ·rw [ip0 hx,dfa0]
  ·rfl
  ·rintro rfl;obtain ⟨i,_,_,hc⟩:=hx;exact hc rfl
 ·rw [in0 hx,dtr0 (Atk hl (Kj.1 hx))];rfl
def V1 (a:SAlgebra):Prop:=a.Ops.length<=1048576 /\ ∀f∈a.Ops,f.Table.length<=1048576
def Aey (n:Nat) (f:SOp):Prop:=0<=f.Arity/\f.Arity<=3/\f.Table.length=n^f.Arity.toNat/\Bz f.Table n
def Aff (a:SAlgebra):Prop:=1<=a.Size/\a.Size<=8/\a.Ops.length<=4 /\ ∀f∈a.Ops,Aey a.Size.toNat f
theorem Ag3 {n k:Nat} (hn:n<=8) (hk:k<=3):n^k<=512:= Nat.le_trans (Nat.pow_le_pow_left hn k) (Nat.le_trans (Nat.pow_le_pow_right (by omega) hk) (by decide))
theorem Az0 {n k:Nat} (hn:n<=8) (hk:k<=3):Ea n k=some ((n^k:Nat):Int):=by
 unfold Ea;have key:=Bw (body:=Dh n) (λj=>(((n^j:Nat):Int),((k:Int)-(j:Int)))) k ((n^k:Nat):Int) (λj hj=>by
  unfold Dh;dsimp only;have hp:=Ag3 hn (show j+1<=3 by omega);rw [Nat.pow_succ] at hp;rw [ip0 (by omega),<-Int.natCast_mul,Nat.pow_succ];generalize n^j*n=N at hp ⊢;rw [Ag (by omega),Ag (by omega),show ((k:Int)-(j:Int)-1)=(k:Int)-((j+1:Nat):Int) by omega]) (by
  unfold Dh;dsimp only;rw [in0 (by omega)])
 have key':Aq (Dh n) (1,(k:Int))=some ((n^k:Nat):Int):=by simpa using key
 rw [key'];rfl
theorem Ann {n k:Nat} (hn:n<=8) (hk:k<=3):Dq n k=some ((n^k:Nat):Int):=by
 unfold Dq;have key:=Bw (body:=Di n) (λj=>(((n^j:Nat):Int),((k:Int)-(j:Int)))) k ((n^k:Nat):Int) (λj hj=>by
  unfold Di;dsimp only;have hp:=Ag3 hn (show j+1<=3 by omega);rw [Nat.pow_succ] at hp;rw [ip0 (by omega),<-Int.natCast_mul,Nat.pow_succ];generalize n^j*n=N at hp ⊢;rw [Ag (by omega),Ag (by omega),show ((k:Int)-(j:Int)-1)=(k:Int)-((j+1:Nat):Int) by omega]) (by
  unfold Di;dsimp only;rw [in0 (by omega)])
 have key':Aq (Di n) (1,(k:Int))=some ((n^k:Nat):Int):=by simpa using key
 rw [key'];rfl
theorem A25 {n:Nat} (hn:n<=8) {f:SOp} (hl:f.Table.length<=LIM):S3 f n=some (decide (Aey n f)):=by
 unfold S3;by_cases h0:0<=f.Arity
 ·rw [ip0 (show f.Arity>=0 from h0)];by_cases h3:f.Arity<=3
  ·have e:Ea (n:Int) f.Arity=some ((n^f.Arity.toNat:Nat):Int):=by
    have:=Az0 hn (k:=f.Arity.toNat) (by omega)
    rwa [show ((f.Arity.toNat:Nat):Int)=f.Arity by omega] at this
   rw [ip0 h3,e];simp only [obs0];by_cases hL:f.Table.length=n^f.Arity.toNat
   ·rw [ip0 (by rw [hL]),Y5 _ _ hl];simp only [obs0];congr 1;rw [decide_eq_decide];exact ⟨λh=>⟨h0,h3,hL,h⟩,λh=>h.2.2.2⟩
   ·rw [in0 (λhc=>hL (Int.ofNat_inj.1 hc)),dfa0 (λh=>hL h.2.2.1)]
  ·rw [in0 h3,dfa0 (λh=>h3 h.2.1)]
 ·rw [in0 (by omega),dfa0 (λh=>h0 h.1)]
theorem A2o {n:Nat} (hn1:1<=n) (hn:n<=8) {f:SOp} (hl:f.Table.length<=LIM):Sa n f=some (decide (Aey n f)):=by
 unfold Sa;rw [Rh];simp only [obs0];by_cases h0:0<=f.Arity/\f.Arity<=3
 ·have e:Dq (n:Int) f.Arity=some ((n^f.Arity.toNat:Nat):Int):=by
   have:=Ann hn (k:=f.Arity.toNat) (by omega)
   rwa [show ((f.Arity.toNat:Nat):Int)=f.Arity by omega] at this
  rw [dtr0 h0,ip0 rfl,e];simp only [obs0];by_cases hL:f.Table.length=n^f.Arity.toNat
  ·rw [in0 (by rw [hL];simp)];simp only [obs0];have hl':=hl;rw [Ba] at hl';have this:=Fo (body:=Hq n f) (λi=>(i:Int)) f.Table.length (λi=>¬(0<=nth f.Table i/\nth f.Table i<=(n:Int)-1)) () () (λi hi hb=>by
    unfold Hq;rw [ip0 (by omega),Ag (by omega),Ag (by omega),Rh];simp only [tna0,obs0];rw [dtr0 (Classical.not_not.1 hb),ip0 rfl,Ag (by omega)];rfl) (λi hi hb=>by
    unfold Hq;rw [ip0 (by omega),Ag (by omega),Ag (by omega),Rh];simp only [tna0,obs0];rw [dfa0 hb,in0 (by simp)]) (by
    unfold Hq;rw [in0 (by omega)]) 0 (by omega)
   refine (Ks this false true).trans (congrArg some (R5 ?_));rw [Kj];constructor
   ·intro h;refine ⟨h0.1,h0.2,hL,λx hx=> ?_⟩;obtain ⟨i,hi,rfl⟩:=Id.1 hx;have:=h i hi;omega
   ·intro h i hi;have:=h.2.2.2 _ (Ap hi);omega
  ·rw [ip0 (λhc=>hL (Int.ofNat_inj.1 hc)),dfa0 (λh=>hL h.2.2.1)];rfl
 ·rw [dfa0 h0,in0 (by simp),dfa0 (λh=>h0 ⟨h.1,h.2.1⟩)];rfl
theorem Avb {a:SAlgebra} (h:V1 a):I1 a=some (decide (Aff a)):=by
 unfold I1;by_cases h1:a.Size<1
 ·rw [ip0 h1,dfa0 (λhg=>by have:=hg.1;omega)];rfl
 rw [in0 h1];by_cases h8:a.Size>8
 ·rw [ip0 h8,dfa0 (λhg=>by have:=hg.2.1;omega)];rfl
 rw [in0 h8];by_cases h4:(a.Ops.length:Int)>4
 ·rw [ip0 h4,dfa0 (λhg=>by have:=hg.2.2.1;omega)];rfl
 rw [in0 h4];simp only [obs0];obtain ⟨n,hn⟩:=Int.eq_ofNat_of_zero_le (show 0<=a.Size by omega);have this:=Fo (body:=Eh a) (λi=>(i:Int)) a.Ops.length (λi=>¬Aey n (nth a.Ops i)) () () (λi hi hb=>by
  have hl:=h.2 _ (Ap hi);unfold Eh;rw [ip0 (by omega),Ag (by omega),tna0,hn,A25 (by omega) (by rw [Ba];omega)];simp only [obs0];rw [dtr0 (Classical.not_not.1 hb),ip0 rfl,Ag (by omega)];rfl) (λi hi hb=>by
  have hl:=h.2 _ (Ap hi);unfold Eh;rw [ip0 (by omega),Ag (by omega),tna0,hn,A25 (by omega) (by rw [Ba];omega)];simp only [obs0];rw [dfa0 hb,in0 (by simp)]) (by
  unfold Eh;rw [in0 (by omega)]) 0 (by omega)
 refine (Ks this false true).trans (congrArg some (R5 ?_));rw [Kj];have hnn:a.Size.toNat=n:=by omega
 constructor
 ·intro hh;refine ⟨by omega,by omega,by omega,λf hf=> ?_⟩;obtain ⟨i,hi,rfl⟩:=Id.1 hf;rw [hnn];exact hh i hi
 ·intro hg i hi;have:=hg.2.2.2 _ (Ap hi)
  rwa [hnn] at this
theorem A2f {a:SAlgebra} (h:V1 a):M2 a=some (decide (Aff a)):=by
 unfold M2;rw [Rh];simp only [obs0];by_cases h1:1<=a.Size/\a.Size<=8
 ·rw [dtr0 h1,ip0 rfl];by_cases h4:(a.Ops.length:Int)>4
  ·rw [ip0 h4,dfa0 (λhg=>by have:=hg.2.2.1;omega)];rfl
  rw [in0 h4];simp only [obs0];obtain ⟨n,hn⟩:=Int.eq_ofNat_of_zero_le (show 0<=a.Size by omega);have this:=Fo (body:=F7 a) (λi=>(i:Int)) a.Ops.length (λi=>¬Aey n (nth a.Ops i)) () () (λi hi hb=>by
   have hl:=h.2 _ (Ap hi);unfold F7;rw [ip0 (by omega),Ag (by omega),tna0,hn,A2o (by omega) (by omega) (by rw [Ba];omega)];simp only [obs0];rw [dtr0 (Classical.not_not.1 hb),ip0 rfl,Ag (by omega)];rfl) (λi hi hb=>by
   have hl:=h.2 _ (Ap hi);unfold F7;rw [ip0 (by omega),Ag (by omega),tna0,hn,A2o (by omega) (by omega) (by rw [Ba];omega)];simp only [obs0];rw [dfa0 hb,in0 (by simp)]) (by
   unfold F7;rw [in0 (by omega)]) 0 (by omega)
  refine (Ks this false true).trans (congrArg some (R5 ?_));rw [Kj];have hnn:a.Size.toNat=n:=by omega
  constructor
  ·intro hh;refine ⟨by omega,by omega,by omega,λf hf=> ?_⟩;obtain ⟨i,hi,rfl⟩:=Id.1 hf;rw [hnn];exact hh i hi
  ·intro hg i hi;have:=hg.2.2.2 _ (Ap hi)
   rwa [hnn] at this
 ·rw [dfa0 h1,in0 (by simp),dfa0 (λhg=>h1 ⟨hg.1,hg.2.1⟩)];rfl
def Avv (a:SAlgebra):List Int:=a.Ops.map (·.Arity)
theorem Apq {xs ys:List Int} (h:xs.length<=LIM):Km xs ys=some (decide (xs=ys)):=by
 unfold Km;rw [Ba] at h;by_cases hne:xs.length=ys.length
 ·rw [in0 (by omega)];have this:=Fo (body:=Ez xs ys) (λi=>(i:Int)) xs.length (λi=>¬nth xs i=nth ys i) () () (λi hi hb=>by
   unfold Ez;rw [ip0 (by omega),Ag (by omega),Ag (by omega)];simp only [tna0];rw [in0 (λhc=>hc (Classical.not_not.1 hb).symm),Ag (by omega)];rfl) (λi hi hb=>by
   unfold Ez;rw [ip0 (by omega),Ag (by omega),Ag (by omega)];simp only [tna0];rw [ip0 (λhc=>hb hc.symm)]) (by unfold Ez;rw [in0 (by omega)]) 0 (by omega)
  refine (Ks this false true).trans (congrArg some (R5 ?_));rw [Kj];exact ⟨λhh=>Atk hne hh,λhh i _=>by rw [hh]⟩
 ·rw [ip0 (by omega),dfa0 (λhh=>hne (by rw [hh]))]
def Ei (n:Nat):Nat->Nat->List Int
 | 0,_=>[]
 | r+1,k=>Ei n r (k/n)++[((k%n:Nat):Int)]
theorem Gl (n:Nat) : ∀r k,(Ei n r k).length=r:=by
 intro r
 induction r with
 | zero=>intro k;rfl
 | succ r ih=>intro k;simp [Ei,ih]
theorem Atb {n:Nat} (hn:0<n) : ∀r k,Bz (Ei n r k) n:=by
 intro r
 induction r with
 | zero=>intro k x hx;cases hx
 | succ r ih=>
   intro k x hx;simp only [Ei] at hx;rcases List.mem_append.1 hx with hx | hx
   ·exact ih _ x hx
   ·rw [List.mem_singleton.1 hx];have:=Nat.mod_lt k hn;omega
def M8 (m:Nat) (xs:List Int):Int:=xs.foldl (λs x=>s*(m:Int)+x) 0
theorem Ada (m:Nat) (xs:List Int) (y:Int):M8 m (xs++[y])=M8 m xs*(m:Int)+y:=by unfold M8;rw [List.foldl_append];rfl
theorem Zp {m:Nat} : ∀(r:Nat) (xs:List Int),xs.length=r->Bz xs m -> ∃c:Nat,M8 m xs=(c:Int)/\c<m^r:=by
 intro r
 induction r with
 | zero=> intro xs hl _;have:xs=[]:=List.length_eq_zero_iff.1 hl;subst this;exact ⟨0,rfl,by simp⟩
 | succ r ih=>
   intro xs hl hx;obtain ⟨ys,y,rfl⟩ : ∃ys y,xs=ys++[y]:=by refine ⟨xs.take r,nth xs r,?_⟩;rw [<-Cp (by omega),List.take_of_length_le (by omega)]
   have hy:=hx y (by simp);obtain ⟨c,h1,h2⟩:=ih ys (by simpa using hl) λz hz=>hx z (by simp [hz])
   obtain ⟨d,rfl⟩:=Int.eq_ofNat_of_zero_le hy.1;refine ⟨c*m+d,by rw [Ada,h1];push_cast;rfl,?_⟩;have h3:=Nat.mul_le_mul_right m (show c+1<=m^r from h2);rw [Nat.succ_mul] at h3;rw [Nat.pow_succ];omega
theorem Agm {m:Nat} (hm:m<=8) {xs:List Int} (hl:xs.length<=3) (hx:Bz xs m) : ∃c:Nat,M8 m xs=(c:Int)/\c<m^xs.length/\c<512:=by obtain ⟨c,h1,h2⟩:=Zp xs.length xs rfl hx;have:=Ag3 hm hl;exact ⟨c,h1,h2,by omega⟩
theorem Ade {m:Nat} {xs:List Int} {i:Nat} (hi:i<xs.length):M8 m (xs.take (i+1))=M8 m (xs.take i)*(m:Int)+nth xs i:=by rw [Cp hi,Ada]
theorem Ac9 {m:Nat} (hm:m<=8) {xs:List Int} (hl:xs.length<=3) (hx:Bz xs m) {i:Nat} (hi:i<xs.length) :
  InI (M8 m (xs.take i)*(m:Int))/\InI (M8 m (xs.take i)*(m:Int)+nth xs i):=by
 obtain ⟨c,h1,_,h3⟩:=Agm hm (xs:=xs.take i) (by rw [List.length_take];omega) λz hz=>hx z (List.mem_of_mem_take hz)
 have hv:=hx _ (Ap hi);have h4:c*m<=512*8:=Nat.mul_le_mul (by omega) hm;rw [h1,<-Int.natCast_mul];generalize c*m=d at h4;unfold InI;omega
theorem A0f {m:Nat} (hm:m<=8) {xs:List Int} (hl:xs.length<=3) (hx:Bz xs m):I8 xs m=some (M8 m xs):=by
 unfold I8;have key:=Bw (body:=Fd xs m) (λi=>((i:Int),M8 m (xs.take i))) xs.length (M8 m xs) (λi hi=>by
  unfold Fd;dsimp only;obtain ⟨h1,h2⟩:=Ac9 hm hl hx hi;rw [ip0 (by omega),Ag (by omega),Ag h1,tna0,Ag h2,Ag (by omega),Ade hi];rfl) (by
  unfold Fd;dsimp only;rw [in0 (by omega),List.take_length])
 have key':Aq (Fd xs m) (0,0)=_:=key;rw [key'];rfl
def A51 (n m:Nat) (f:List Int):Nat->Nat->Int
 | 0,_=>0
 | r+1,k=>A51 n m f r (k/n)*(m:Int)+nth f (k%n)
theorem A14 (n m:Nat) (f:List Int) : ∀r k,M8 m ((Ei n r k).map λx=>nth f x.toNat)=A51 n m f r k:=by
 intro r
 induction r with
 | zero=>intro k;rfl
 | succ r ih=> intro k;simp only [Ei,A51,List.map_append,List.map_cons,List.map_nil,tna0];rw [Ada,ih]
theorem A0p {n m:Nat} (hn:0<n) {f:List Int} (hf:f.length=n) (hfx:Bz f m) (r k:Nat):Bz ((Ei n r k).map λx=>nth f x.toNat) m:=by intro y hy;obtain ⟨x,hx,rfl⟩:=List.mem_map.1 hy;have:=Atb hn r k x hx;exact hfx _ (Ap (by omega))
structure Homs (a b:SAlgebra) (f:List Int) (n m:Nat):Prop where
 ga:Aff a
 gb:Aff b
 ty:Avv a=Avv b
 sa:a.Size=n
 sb:b.Size=m
 len:f.length=n
 fin:Bz f m
section
variable {a b:SAlgebra}
variable {f:List Int} {n m:Nat}
theorem Homs.ops (h:Homs a b f n m):a.Ops.length=b.Ops.length:=by have:=congrArg List.length h.ty;simpa [Avv] using this
theorem Homs.op (h:Homs a b f n m) {i:Nat} (hi:i<a.Ops.length) : ∃r:Nat,r<=3/\(nth a.Ops i).Arity=r/\(nth b.Ops i).Arity=r/\(nth a.Ops i).Table.length=n^r/\(nth b.Ops i).Table.length=m^r/\Bz (nth a.Ops i).Table n/\n^r<=512:=by
 have hn:a.Size.toNat=n:=by have:=h.sa;omega
 have hm:b.Size.toNat=m:=by have:=h.sb;omega
 have hn8:n<=8:=by have:=h.sa;have:=h.ga.2.1;omega
 obtain ⟨h1,h2,h3,h4⟩:=h.ga.2.2.2 _ (Ap hi);have hib:i<b.Ops.length:=by rw [<-h.ops];exact hi
 obtain ⟨_,_,k3,_⟩:=h.gb.2.2.2 _ (Ap hib);have e:(nth a.Ops i).Arity=(nth b.Ops i).Arity:=by have e1:nth (Avv a) i=(nth a.Ops i).Arity:=G5 _ hi;have e2:nth (Avv b) i=(nth b.Ops i).Arity:=G5 _ hib;rw [<-e1,<-e2,h.ty]
 rw [hn] at h3 h4;rw [hm,<-e] at k3;exact ⟨(nth a.Ops i).Arity.toNat,by omega,by omega,by omega,h3,k3,h4,Ag3 hn8 (by omega)⟩
theorem Homs.pos (h:Homs a b f n m):0<n/\n<=8/\0<m/\m<=8:=by have:=h.sa;have:=h.sb;have:=h.ga.1;have:=h.ga.2.1;have:=h.gb.1;have:=h.gb.2.1;omega
theorem Homs.low (h:Homs a b f n m) {r k:Nat} (hr:r<=3) : ∃c:Nat,A51 n m f r k=(c:Int)/\c<m^r:=by obtain ⟨hn,_,_,hm⟩:=h.pos;obtain ⟨c,h1,h2,_⟩:=Agm hm (xs:=(Ei n r k).map λx=>nth f x.toNat) (by rw [List.length_map,Gl];exact hr) (A0p hn h.len h.fin r k);rw [A14] at h1;rw [List.length_map,Gl] at h2;exact ⟨c,h1,h2⟩
end
def uniq (f:List Int):Prop := ∀i,i<f.length->nth f i∉f.take i
structure Perm (f:List Int) (n:Nat):Prop where
 len:f.length=n
 fin:Bz f n
 un:uniq f
theorem Perm.count {f:List Int} {n:Nat} (h:Perm f n) : ∀i,i<=n->(Vn n λz=>decide ((z:Int)∈f.take i)).length=i:=by
 intro i
 induction i with
 | zero=> intro _;rw [List.length_eq_zero_iff];exact A05.2 λz _=>by simp
 | succ i ih=>
   intro hi;have hil:i<f.length:=by rw [h.len];exact hi
   have hv:=h.fin _ (Ap hil);have hu:=h.un i hil;have hc:nth f i=(((nth f i).toNat:Nat):Int):=by omega
   have:=A0z (q:=λz=>decide ((z:Int)∈f.take i)) (q':=λz=>decide ((z:Int)∈f.take (i+1))) (x:=(nth f i).toNat) (dfa0 (by rw [<-hc];exact hu)) (λz=>by
    rw [Cp hil,Bool.eq_iff_iff];simp only [decide_eq_true_eq,List.mem_append,List.mem_singleton,Bool.or_eq_true];constructor
    ·rintro (h1 | h1)
     ·exact .inl h1
     ·exact .inr (by omega)
    ·rintro (h1 | h1)
     ·exact .inl h1
     ·exact .inr (by omega)) n
   rw [this,ih (by omega),ip0 (by omega)]
end Go.Proofs.Ytaalgpkajkogkaa.Ax
namespace Go.Proofs.Ytaalgpkajkogkaa.Ax
open Go
def Cur (k:Nat) (c:Sl1Cur):Prop:=(∀x∈c.code,0<=x/\x<=255)/\c.code.length<=65536/\0<=c.at_/\c.at_<=k
theorem Cur.mono {k l:Nat} {c:Sl1Cur} (h:Cur k c) (hl:k<=l):Cur l c:=⟨h.1,h.2.1,h.2.2.1,by have:=h.2.2.2;omega⟩
theorem A12 {n:Int} (h0:0<=n) (h1:n<=255):IntKind.u64.wrap n=n:=by simp [IntKind.wrap,IntKind.bits,IntKind.signed];omega
theorem Aru {c:Sl1Cur} {k:Nat} (h:Cur k c) (hk:k<=1000000000) : ∃r d,Gt c=some (r,d)/\Cur (k+1) d/\0<=r/\r<=255:=by
 obtain ⟨h1,h2,h3,h4⟩:=h;unfold Gt;have fin : ∀q:Int,0<=q->q<=255 -> ∃r d,(ask (InI (c.at_+1)) <|
   if c.at_+1<=(c.code.length:Int) then
    some (q,({ code:=c.code,at_:=c.at_+1,seed:=IntKind.u64.wrap (IntKind.u64.wrap (IntKind.u64.wrap (c.seed*6364136223846793005)+IntKind.u64.wrap q)+550289) }:Sl1Cur))
   else some (IntKind.i64.wrap (IntKind.u64.wrap (((BitVec.ofInt IntKind.u64.bits ((IntKind.u64.wrap (IntKind.u64.wrap (IntKind.u64.wrap (c.seed*6364136223846793005)+IntKind.u64.wrap q)+550289)).fdiv (2^min (Int.toNat 40) IntKind.u64.bits)) &&& BitVec.ofInt IntKind.u64.bits 255).toNat:Nat):Int)),
    ({ code:=c.code,at_:=c.at_+1,seed:=IntKind.u64.wrap (IntKind.u64.wrap (IntKind.u64.wrap (c.seed*6364136223846793005)+IntKind.u64.wrap q)+550289) }:Sl1Cur)))=some (r,d)/\Cur (k+1) d/\0<=r/\r<=255:=by
  intro q hq0 hq1;rw [Ag (by omega)];split
  ·exact ⟨_,_,rfl,⟨h1,h2,by show 0<=c.at_+1;omega,by show c.at_+1<=((k+1:Nat):Int);omega⟩,hq0,hq1⟩
  ·refine ⟨_,_,rfl,⟨h1,h2,by show 0<=c.at_+1;omega,by show c.at_+1<=((k+1:Nat):Int);omega⟩,?_⟩;generalize BitVec.ofInt IntKind.u64.bits ((IntKind.u64.wrap (IntKind.u64.wrap (IntKind.u64.wrap (c.seed*6364136223846793005)+IntKind.u64.wrap q)+550289)).fdiv (2^min (Int.toNat 40) IntKind.u64.bits))=b;have hb:(b &&& BitVec.ofInt IntKind.u64.bits 255).toNat<=255:=by
    rw [BitVec.toNat_and];have:(BitVec.ofInt IntKind.u64.bits 255).toNat=255:=by decide
    rw [this];exact Nat.and_le_right
   generalize (b &&& BitVec.ofInt IntKind.u64.bits 255).toNat=z at hb;rw [A12 (by omega) (by omega),Adn (by omega) (by omega)];omega
 by_cases hc:c.at_<(c.code.length:Int)
 ·rw [ip0 hc,Ag ⟨h3,hc⟩];have hm:=h1 _ (Ap (xs:=c.code) (i:=c.at_.toNat) (by omega));rw [Adn (by omega) (by omega)];simp only [obs0];exact fin _ hm.1 hm.2
 ·rw [in0 hc];simp only [obs0];exact fin 0 (by omega) (by omega)
theorem B8 {c:Sl1Cur} {k:Nat} (h:Cur k c) (hk:k<=900000000) (n:Int) : ∃r d,As c n=some (r,d)/\Cur (k+2) d/\0<=r/\(r<n\/(n<=1/\r=0)):=by
 unfold As;by_cases h1:n<=1
 ·rw [ip0 h1];exact ⟨0,c,rfl,h.mono (by omega),by omega,.inr ⟨h1,rfl⟩⟩
 ·rw [in0 h1];obtain ⟨r,d,e,hd,a1,a2⟩:=Aru h (by omega);simp only [e,obs0];by_cases h2:n>200
  ·rw [ip0 h2,Ag (by omega)];obtain ⟨r2,d2,e2,hd2,b1,b2⟩:=Aru hd (by omega);simp only [e2,obs0];rw [Ag (by omega),Ag (by omega)];refine ⟨_,_,rfl,hd2,Int.tmod_nonneg _ (by omega),.inl ?_⟩;exact Int.tmod_lt_of_pos _ (by omega)
  ·rw [in0 h2,Ag (by omega)];refine ⟨_,_,rfl,hd.mono (by omega),Int.tmod_nonneg _ (by omega),.inl ?_⟩;exact Int.tmod_lt_of_pos _ (by omega)
theorem Nh {c:Sl1Cur} {k:Nat} (h:Cur k c) (hk:k<=900000000) (n:Int) : ∃b d,Bt c n=some (b,d)/\Cur (k+2) d:=by unfold Bt;obtain ⟨r,d,e,hd,_,_⟩:=B8 h hk n;simp only [e,obs0];exact ⟨_,_,rfl,hd⟩
theorem Ej {c:Sl1Cur} {k:Nat} (h:Cur k c) (hk:k<=900000000) (l:List Int) (h0:0<l.length) : ∃r d,A5 c l=some (r,d)/\Cur (k+2) d/\r∈l:=by unfold A5;obtain ⟨r,d,e,hd,a1,a2⟩:=B8 h hk (l.length:Int);simp only [e,obs0];rw [Ag (by omega)];exact ⟨_,_,rfl,hd,Ap (by omega)⟩
open Classical
open Classical
def A4m (n r k:Nat) (S:Nat->Bool):Prop := ∀x∈Ei n r k,S x.toNat=true
def A6r (a:SAlgebra) (i k:Nat) (S:Nat->Bool):Prop:=A4m a.Size.toNat (nth a.Ops i).Arity.toNat k S
def A5w (H:List Bool):Nat:=H.count true
section
variable {a:SAlgebra}
structure ReadyA (a:SAlgebra) (n:Nat):Prop where
 good:Aff a
 sz:a.Size=(n:Int)
 pos:0<n
 le:n<=8
theorem ReadyA.nat {n:Nat} (h:ReadyA a n):a.Size.toNat=n:=by have:=h.sz;omega
theorem ReadyA.op {n:Nat} (h:ReadyA a n) {i:Nat} (hi:i<a.Ops.length) : ∃r:Nat,(nth a.Ops i).Arity=(r:Int)/\r<=3/\(nth a.Ops i).Table.length=n^r/\Bz (nth a.Ops i).Table n/\(nth a.Ops i).Table.length<=512/\(∀k S,A6r a i k S↔A4m n r k S):=by have:=h.good.2.2.2 _ (Ap hi);rw [h.nat] at this;obtain ⟨h1,h2,h3,h4⟩:=this;refine ⟨(nth a.Ops i).Arity.toNat,by omega,by omega,h3,h4,?_,λk S=>by unfold A6r;rw [h.nat]⟩;rw [h3];exact Ag3 h.le (by omega)
structure Pass (n:Nat) (G:Nat->Bool) (c0:Bool) (H0:List Bool) (c:Bool) (H:List Bool) (done:(Nat->Bool)->Prop):Prop where
 len:H.length=n
 more : ∀z,nth H0 z=true->nth H z=true
 low : ∀z,nth H z=true->G z=true
 up:c=true->c0=true\/A5w H0<A5w H
 no:c=false->c0=false/\H=H0/\done (nth H)
 mono:A5w H0<=A5w H
end
theorem Ay7 {α β:Type} {o:Option α} {k:α->Option β} {Q:α->Prop} {R:β->Prop} (h : ∃a,o=some a/\Q a) (h2 : ∀a,Q a -> ∃b,k a=some b/\R b) : ∃b,o.bind k=some b/\R b:=by obtain ⟨a,e,hq⟩:=h;rw [e];exact h2 a hq
theorem A3n {β:Type} {c:Prop} [Decidable c] {x y:Option β} {R:β->Prop} (h1:c -> ∃b,x=some b/\R b) (h2:¬c -> ∃b,y=some b/\R b) : ∃b,(if c then x else y)=some b/\R b:=by
 split
 ·exact h1 ‹_›
 ·exact h2 ‹_›
def Vl (a:SAlgebra):Prop:=a.Ops.length<=10 /\ ∀f∈a.Ops,f.Table.length<=101
theorem Sh {a:SAlgebra} (h:Vl a):V1 a:=⟨by have:=h.1;omega,λf hf=>by have:=h.2 f hf;omega⟩
theorem Awe (s:ByteArray) (hs:s.size<=100) : ∃f,Bm s=some f/\f.Table.length<=100:=by
 have hL:=Ba;unfold Bm;obtain ⟨f,e,hf⟩:=Fy (body:=Hm s) (λt => ∃j:Nat,t.1=(j:Int)/\j<=s.size/\t.2.Table.length<=j) (λt=>s.size-t.1.toNat) (λf=>f.Table.length<=100) (λt ht=>by
  obtain ⟨x4,x3⟩:=t;obtain ⟨j,g1,g2,g3⟩:=ht;simp only at g1 g2 g3;subst g1;unfold Hm;dsimp only;by_cases hj:(j:Int)<(s.size:Int)
  ·left;rw [ip0 hj,Ag (by omega),Ag (by simp;omega),Ag (by omega)];exact ⟨_,rfl,⟨j+1,rfl,by omega,by simp;omega⟩,by simp only;omega⟩
  ·right;rw [in0 hj];exact ⟨_,rfl,by omega⟩) (s:=((0:Int),({ Arity:=2,Table:=Av Int }:SOp))) ⟨0,rfl,Nat.zero_le _,by simp [Av]⟩
 rw [e];exact ⟨_,rfl,hf⟩
theorem Axc {n:Int} (hn:n=2\/n=3) : ∃f,H7 n=some f/\f.Table.length<=100:=by
 have hL:=Ba;unfold H7;obtain ⟨f,e,hf⟩:=Fy (body:=Hj n) (λt => ∃j:Nat,t.1=(j:Int)/\j<=27/\t.2.Table.length<=j) (λt=>27-t.1.toNat) (λf=>f.Table.length<=100) (λt ht=>by
  obtain ⟨x4,x3⟩:=t;obtain ⟨j,g1,g2,g3⟩:=ht;simp only at g1 g2 g3;subst g1;unfold Hj;dsimp only;have d1 : ∀m:Int,(j:Int).tdiv m=(j:Int)/m:=λm=>Int.tdiv_eq_ediv_of_nonneg (by omega)
  have d2 : ∀m:Int,(j:Int).tmod m=(j:Int)%m:=λm=>Int.tmod_eq_emod_of_nonneg (by omega)
  rw [d1,d1,d2];rcases hn with rfl | rfl
  ·have d3:((j:Int)/2).tmod 2=((j:Int)/2)%2:=Int.tmod_eq_emod_of_nonneg (by omega);rw [d3];by_cases hj:(j:Int)<2*2*2
   ·left;rw [Ag (by omega),Ag (by omega),ip0 hj];rw [Ag (by omega),Ag (by omega),Ag (by omega),Ag (by omega),Ag (by omega),Ag (by omega),Ag (by omega),Ag (by omega),Ag (by omega),Ag (by simp;omega),Ag (by omega)];exact ⟨_,rfl,⟨j+1,rfl,by omega,by simp;omega⟩,by simp only;omega⟩
   ·right;rw [Ag (by omega),Ag (by omega),in0 hj];exact ⟨_,rfl,by omega⟩
  ·have d3:((j:Int)/3).tmod 3=((j:Int)/3)%3:=Int.tmod_eq_emod_of_nonneg (by omega);rw [d3];by_cases hj:(j:Int)<3*3*3
   ·left;rw [Ag (by omega),Ag (by omega),ip0 hj];rw [Ag (by omega),Ag (by omega),Ag (by omega),Ag (by omega),Ag (by omega),Ag (by omega),Ag (by omega),Ag (by omega),Ag (by omega),Ag (by simp;omega),Ag (by omega)];exact ⟨_,rfl,⟨j+1,rfl,by omega,by simp;omega⟩,by simp only;omega⟩
   ·right;rw [Ag (by omega),Ag (by omega),in0 hj];exact ⟨_,rfl,by omega⟩) (s:=((0:Int),({ Arity:=3,Table:=Av Int }:SOp))) ⟨0,rfl,Nat.zero_le _,by simp [Av]⟩
 rw [e];exact ⟨_,rfl,hf⟩
theorem Ah6 (k:Int) : ∃a,I9 k=some a/\Vl a:=by
 have fin0 : ∀ {z:Int},Vl { Size:=z,Ops:=Av SOp }:=⟨by simp [Av],λf hf=>by simp [Av] at hf⟩
 have fin1 : ∀ {z:Int} {f:SOp},f.Table.length<=100->Vl { Size:=z,Ops:=[f] }:=λh=>⟨by simp,λf hf=>by simp at hf;subst hf;omega⟩
 have fin2 : ∀ {z:Int} {f g:SOp},f.Table.length<=100->g.Table.length<=100->Vl { Size:=z,Ops:=[f,g] }:=λh1 h2=>⟨by simp,λf hf=>by simp only [List.mem_cons,List.not_mem_nil,or_false] at hf;rcases hf with rfl | rfl<;>omega⟩
 have fin3 : ∀ {z:Int} {f g e:SOp},f.Table.length<=100->g.Table.length<=100->e.Table.length<=100->Vl { Size:=z,Ops:=[f,g,e] }:=λh1 h2 h3=>⟨by simp,λf hf=>by simp only [List.mem_cons,List.not_mem_nil,or_false] at hf;rcases hf with rfl | rfl | rfl<;>omega⟩
 unfold I9
 repeat' (first | refine A3n (λ_=> ?_) (λ_=> ?_) | refine Ay7 (Awe _ (by decide)) λf hf=> ?_ | refine Ay7 (Axc (by simp)) λf hf=> ?_)
 all_goals
  first
   | exact ⟨_,rfl,fin0⟩
   | exact ⟨_,rfl,fin1 (by first | assumption | decide)⟩
   | exact ⟨_,rfl,fin2 (by first | assumption | decide) (by first | assumption | decide)⟩
   | exact ⟨_,rfl,fin3 (by first | assumption | decide) (by first | assumption | decide) (by first | assumption | decide)⟩
theorem Ate {c:Sl1Cur} {k:Nat} (h:Cur k c) (hk:k<=600000000) : ∃a d,Gp c=some (a,d)/\Cur (k+1000) d/\Vl a:=by
 have hL:=Ba;unfold Gp;obtain ⟨b,d,e,hd⟩:=Nh h (by omega) 4;rw [e];simp only [obs0];by_cases hb:b=true
 ·rw [ip0 hb];obtain ⟨n,d2,e2,hd2,hn⟩:=Ej hd (by omega) [2,2,3,3,4] (by simp);rw [e2];simp only [obs0];obtain ⟨m,d3,e3,hd3,hm⟩:=Ej hd2 (by omega) [1,1,2] (by simp);rw [e3];simp only [obs0];obtain ⟨N,rfl,hN⟩ : ∃N:Nat,n=(N:Int)/\2<=N/\N<=4:=⟨n.toNat,by simp at hn;omega,by simp at hn;omega⟩
  obtain ⟨M,rfl,hM⟩ : ∃M:Nat,m=(M:Int)/\1<=M/\M<=2:=⟨m.toNat,by simp at hm;omega,by simp at hm;omega⟩
  obtain ⟨⟨a,d4⟩,e4,⟨ha1,ha2,ha3⟩,hd4⟩:=Fy (body:=E5 (N:Int)) (λs => ∃j:Nat,s.1=(j:Int)/\j<=M/\s.2.1.Size=(N:Int)/\s.2.1.Ops.length=M-j/\(∀f∈s.2.1.Ops,1<=f.Table.length/\f.Table.length<=64)/\Cur (k+6+200*(M-j)) s.2.2) (λs=>s.1.toNat)
   (λt=>(t.1.Size=(N:Int)/\t.1.Ops.length=M /\ ∀f∈t.1.Ops,1<=f.Table.length/\f.Table.length<=64)/\Cur (k+500) t.2) (λs hs=>by
   obtain ⟨x6,x5,x1⟩:=s;obtain ⟨j,g1,g2,g3,g4,g5,g6⟩:=hs;simp only at g1 g2 g3 g4 g5 g6;subst g1;unfold E5;dsimp only;by_cases hj:(j:Int)>0
   ·left;rw [ip0 hj];obtain ⟨r,d5,e5,hd5,hr⟩:=Ej g6 (by omega) [0,1,2,2,3] (by simp);rw [e5];simp only [obs0];obtain ⟨R,rfl,hR⟩ : ∃R:Nat,r=(R:Int)/\R<=3:=⟨r.toNat,by simp at hr;omega,by simp at hr;omega⟩
    have hop : ∃f:SOp,((if (N:Int)=4 then if (R:Int)=3 then some ({ Arity:=2,Table:=Av Int }:SOp) else some { Arity:=(R:Int),Table:=Av Int } else some { Arity:=(R:Int),Table:=Av Int }:Option SOp))=some f/\f.Table=[] /\ ∃Q:Nat,f.Arity=(Q:Int)/\1<=N^Q/\N^Q<=64/\Q<=3:=by
     by_cases h4:(N:Int)=4
     ·rw [ip0 h4];have h4:N=4:=by omega
      subst h4;by_cases h3:(R:Int)=3
      ·rw [ip0 h3];exact ⟨_,rfl,rfl,2,rfl,by decide⟩
      ·rw [in0 h3];refine ⟨_,rfl,rfl,R,rfl,?_⟩;have:R=0\/R=1\/R=2:=by omega
       rcases this with rfl | rfl | rfl<;>decide
     ·rw [in0 h4];refine ⟨_,rfl,rfl,R,rfl,?_⟩;have h5:N=2\/N=3:=by omega
      have:R=0\/R=1\/R=2\/R=3:=by omega
      rcases h5 with rfl | rfl<;>rcases this with rfl | rfl | rfl | rfl<;>decide
    obtain ⟨f,ef,ht,Q,hQ,q1,q2,q3⟩:=hop;rw [ef];simp only [obs0];rw [hQ,Ann (by omega) q3];simp only [obs0];obtain ⟨⟨f2,d6⟩,e6,hf2,hd6⟩:=Fy (body:=E4 (N:Int) (j:Int) x5) (λs => ∃i:Nat,s.1=(i:Int)/\i<=N^Q/\s.2.1.Table.length=N^Q-i/\Cur (k+6+200*(M-j)+2+2*(N^Q-i)) s.2.2) (λs=>s.1.toNat) (λt=>t.1.Table.length=N^Q/\Cur (k+6+200*(M-j)+2+2*N^Q) t.2) (λs hs=>by
     obtain ⟨x8,x7,x9⟩:=s;obtain ⟨i,k1,k2,k3,k4⟩:=hs;simp only at k1 k2 k3 k4;subst k1;unfold E4;dsimp only;by_cases hi:(i:Int)>0
     ·left;rw [ip0 hi];obtain ⟨v,d7,e7,hd7,_⟩:=B8 k4 (by omega) (N:Int);rw [e7];simp only [obs0];rw [Ag (by simp;omega),Ag (by omega)];exact ⟨_,rfl,⟨i-1,by simp only;omega,by omega,by simp;omega,hd7.mono (by omega)⟩,by simp only;omega⟩
     ·right;rw [in0 hi];exact ⟨_,rfl,by simp only;omega,k4.mono (by omega)⟩) (s:=(((N^Q:Nat):Int),f,d5)) ⟨N^Q,rfl,Nat.le_refl _,by simp [ht],hd5.mono (by omega)⟩
    rw [e6];simp only [obs0];rw [Ag (by simp;omega),Ag (by omega)];simp only at hf2 hd6;refine ⟨_,rfl,⟨j-1,by simp only;omega,by omega,g3,by simp;omega,λf hf=> ?_,hd6.mono (by omega)⟩,by simp only;omega⟩;rcases List.mem_append.1 hf with h' | h'
    ·exact g5 f h'
    ·rw [List.mem_singleton.1 h'];omega
   ·right;rw [in0 hj];exact ⟨_,rfl,⟨g3,by simp only;omega,g5⟩,g6.mono (by omega)⟩) (s:=((M:Int),({ Size:=(N:Int),Ops:=Av SOp }:SAlgebra),d3)) ⟨M,rfl,Nat.le_refl _,rfl,by simp [Av],λf hf=>by simp [Av] at hf,hd3.mono (by omega)⟩
  rw [e4];simp only [obs0];simp only at ha1 ha2 ha3 hd4;have h0:0<a.Ops.length:=by omega
  have hf0:=ha3 _ (Ap h0);have ht:Vl a:=⟨by omega,λf hf=>by have:=ha3 f hf;omega⟩
  have hset : ∀ {z:Int} {f:SOp},f.Table.length<=101->Vl { Size:=z,Ops:=a.Ops.set (Int.toNat 0) f }:=λhf=>⟨by simp;omega,λg hg=>by
   rcases List.mem_or_eq_of_mem_set hg with h' | h'
   ·have:=ha3 g h';omega
   ·rw [h'];exact hf⟩
  obtain ⟨w,d5,e5,hd5,w0,_⟩:=B8 hd4 (by omega) 16;rw [e5];simp only [obs0];by_cases c0:w=0
  ·rw [ip0 c0,Ag (by omega)];obtain ⟨r,d6,e6,hd6,_⟩:=Ej hd5 (by omega) [0,9,(N:Int)+1] (by simp);rw [e6];exact ⟨_,_,rfl,hd6.mono (by omega),ht⟩
  rw [in0 c0];by_cases c1:w=1
  ·rw [ip0 c1,Ag (by omega),Ag (by simp only [Int.toNat_zero,List.length_singleton];omega)];exact ⟨_,_,rfl,hd5.mono (by omega),hset (by simp only [Int.toNat_zero,List.length_append,List.length_singleton];omega)⟩
  rw [in0 c1];by_cases c2:w=2
  ·rw [ip0 c2,Ag (by omega)];obtain ⟨r,d6,e6,hd6,r0,r1⟩:=B8 hd5 (by omega) ((nth a.Ops (Int.toNat 0)).Table.length:Int);rw [e6];simp only [obs0];obtain ⟨s,d7,e7,hd7,_⟩:=Ej hd6 (by omega) [-1,(N:Int)] (by simp);rw [e7];simp only [obs0];simp only [Int.toNat_zero] at r1 ⊢;rw [Ag (by omega)];exact ⟨_,_,rfl,hd7.mono (by omega),hset (by simp only [List.length_set];omega)⟩
  rw [in0 c2];by_cases c3:w=3
  ·rw [ip0 c3];obtain ⟨r,d6,e6,hd6,_⟩:=Ej hd5 (by omega) [-1,4] (by simp);rw [e6];simp only [obs0];rw [Ag (by omega)];exact ⟨_,_,rfl,hd6.mono (by omega),hset (by simp only [Int.toNat_zero];omega)⟩
  rw [in0 c3];by_cases c4:w=4
  ·rw [ip0 c4];obtain ⟨⟨a2,d6⟩,e6,ht2,hd6⟩:=Fy (body:=E2 (N:Int)) (λs=>s.1.Ops.length<=5/\(∀f∈s.1.Ops,f.Table.length<=64)/\Cur (k+502+2*s.1.Ops.length) s.2) (λs=>5-s.1.Ops.length) (λt=>Vl t.1/\Cur (k+600) t.2) (λs hs=>by
    obtain ⟨x5,x1⟩:=s;obtain ⟨g1,g2,g3⟩:=hs;simp only at g1 g2 g3;unfold E2;dsimp only;obtain ⟨r,d7,e7,hd7,r0,r1⟩:=B8 g3 (by omega) 2;rw [e7];simp only [obs0];rw [Ag (by omega)];by_cases hl:(x5.Ops.length:Int)<4+r
    ·left;rw [ip0 hl,Ag (by omega),Ag (by simp;omega)];refine ⟨_,rfl,⟨by simp;omega,λf hf=> ?_,hd7.mono (by simp;omega)⟩,by simp;omega⟩;rcases List.mem_append.1 hf with h' | h'
     ·exact g2 f h'
     ·rw [List.mem_singleton.1 h'];simp;omega
    ·right;rw [in0 hl];exact ⟨_,rfl,⟨by simp only;omega,λf hf=>by have:=g2 f hf;omega⟩,hd7.mono (by omega)⟩) (s:=(a,d5)) ⟨by simp only;omega,λf hf=>(ha3 f hf).2,hd5.mono (by omega)⟩
   rw [e6];exact ⟨_,_,rfl,hd6.mono (by omega),ht2⟩
  rw [in0 c4];exact ⟨_,_,rfl,hd5.mono (by omega),ht⟩
 ·rw [in0 hb];obtain ⟨r,d2,e2,hd2,_⟩:=B8 hd (by omega) 17;rw [e2];simp only [obs0];obtain ⟨a,e3,ht⟩:=Ah6 r;rw [e3];exact ⟨_,_,rfl,hd2.mono (by omega),ht⟩
theorem At8 {code:List Int} (hc : ∀x∈code,0<=x/\x<=255) (hl:code.length<=65536):Cur 0 ({ code:=code,at_:=0,seed:=0 }:Sl1Cur):=⟨hc,hl,Int.le_refl _,Int.le_refl _⟩
theorem Ar0 {β:Type} (k:ByteArray) (v:β) (k':ByteArray) : ∀(l:List (ByteArray×β)),Gs (Lv l k v) k'=if k'=k then some v else Gs l k'
 | []=>by simp [Lv,Gs]
 | (a,b)::r=>by
   simp only [Lv];by_cases h1:k=a
   ·subst h1;rw [ip0 rfl];simp only [Gs];by_cases h2:k'=k
    ·rw [ip0 h2,ip0 h2]
    ·rw [in0 h2,in0 h2,in0 h2]
   ·rw [in0 h1];simp only [Gs];rw [Ar0 k v k' r];by_cases h2:k'=a
    ·rw [ip0 h2,ip0 h2,in0 (λe=>h1 (by rw [<-e,h2]))]
    ·rw [in0 h2,in0 h2]
theorem Ayz (ns:List Int) : ∀b:ByteArray,(ns.foldl (λr n=>r.push (UInt8.ofNat n.toNat)) b).data.toList=b.data.toList++ns.map λn=>UInt8.ofNat n.toNat:=by
 induction ns with
 | nil=>intro b;simp
 | cons n r ih=> intro b;simp only [List.foldl_cons,List.map_cons];rw [ih];simp [ByteArray.push]
theorem A3x {a b:Int} (ha:0<=a/\a<=255) (hb:0<=b/\b<=255) (h:UInt8.ofNat a.toNat=UInt8.ofNat b.toNat):a=b:=by have:=congrArg UInt8.toNat h;simp [UInt8.toNat_ofNat'] at this;omega
theorem A0l {ns ms:List Int} (hn : ∀x∈ns,0<=x/\x<=255) (hm : ∀x∈ms,0<=x/\x<=255) (h:Aa8 ns=Aa8 ms):ns=ms:=by
 have e:=congrArg (λb:ByteArray=>b.data.toList) h;simp only [Aa8,Ayz] at e;have e2:(ns.map λn:Int=>UInt8.ofNat n.toNat)=ms.map λn:Int=>UInt8.ofNat n.toNat:=by simpa using e
 clear e h
 induction ns generalizing ms with
 | nil=>
   cases ms with
   | nil=>rfl
   | cons _ _=>cases e2
 | cons a r ih=>
   cases ms with
   | nil=>cases e2
   | cons b s=> simp only [List.map_cons,List.cons.injEq] at e2;rw [A3x (hn a (by simp)) (hm b (by simp)) e2.1,ih (λx hx=>hn x (by simp [hx])) (λx hx=>hm x (by simp [hx])) e2.2]
def byt (x:Int):List Int:=[IntKind.u8.wrap (x.fdiv (2^min (Int.toNat 8) IntKind.i64.bits)),IntKind.u8.wrap x]
theorem A3s (n:Int):IntKind.u8.wrap n=n%256:=by simp [IntKind.wrap,IntKind.bits,IntKind.signed]
theorem A2p {x:Int} (h0:0<=x) (h1:x<65536):byt x=[x/256,x%256]:=by
 unfold byt;have e:(2:Int)^min (Int.toNat 8) IntKind.i64.bits=256:=by decide
 rw [e,A3s,A3s,Int.fdiv_eq_ediv_of_nonneg _ (by omega)];congr 1;omega
theorem A21 (x:Int) : ∀y∈byt x,0<=y/\y<=255:=by intro y hy;unfold byt at hy;simp only [List.mem_cons,List.not_mem_nil,or_false] at hy;rcases hy with rfl | rfl<;>(rw [A3s];omega)
def Aft (xs:List Int):ByteArray:=Aa8 (xs.flatMap byt)
theorem As8 : ∀ {xs ys:List Int},(∀x∈xs,0<=x/\x<65536)->(∀x∈ys,0<=x/\x<65536)->xs.flatMap byt=ys.flatMap byt->xs=ys:=by
 intro xs
 induction xs with
 | nil=>
   intro ys _ _ h;cases ys with
   | nil=>rfl
   | cons y r=>simp [byt] at h
 | cons x r ih=>
   intro ys hx hy h;cases ys with
   | nil=>simp [byt] at h
   | cons y s=> have h1:=hx x (by simp);have h2:=hy y (by simp);simp only [List.flatMap_cons,A2p h1.1 h1.2,A2p h2.1 h2.2,List.cons_append,List.nil_append,List.cons.injEq] at h;rw [ih (λz hz=>hx z (by simp [hz])) (λz hz=>hy z (by simp [hz])) h.2.2,show x=y by omega]
theorem Av2 {xs ys:List Int} (hx : ∀x∈xs,0<=x/\x<65536) (hy : ∀x∈ys,0<=x/\x<65536) (h:Aft xs=Aft ys):xs=ys:=by
 refine As8 hx hy (A0l ?_ ?_ h)
 ·intro y hy;obtain ⟨x,_,hy⟩:=List.mem_flatMap.1 hy;exact A21 x y hy
 ·intro y hy;obtain ⟨x,_,hy⟩:=List.mem_flatMap.1 hy;exact A21 x y hy
theorem A2j (xs:List Int):(xs.flatMap byt).length=2*xs.length:=by
 induction xs with
 | nil=>rfl
 | cons x r ih=>simp only [List.flatMap_cons,List.length_append,ih,List.length_cons];simp [byt];omega
theorem Aja {xs:List Int} (hl:xs.length<=1048576):Ij xs=some (Aft xs):=by
 have hL:=Ba;unfold Ij;rw [Ag (by omega),Ag (by omega)];have key:=Bw (body:=G0 xs) (λi=>((i:Int),(xs.take i).flatMap byt)) xs.length (xs.flatMap byt) (λi hi=>by
  have h1:=A2j (xs.take i);unfold G0;dsimp only;rw [ip0 (by omega),Ag (by omega),tna0,Ag (by rw [h1,List.length_take];simp only [List.length_cons,List.length_nil];omega),Ag (by omega),Cp hi,List.flatMap_append];simp [byt]) (by
  unfold G0;dsimp only;rw [in0 (by omega),List.take_length])
 have key':Aq (G0 xs) (0,Av Int)=_:=key;rw [key'];rfl
def Yr (S:List (ByteArray×Bool)) (rows:List (List Int)):Prop := ∀k,(Gs S k).getD false=decide (∃t∈rows,Aft t=k)
theorem Avl:Yr (Av (ByteArray×Bool)) []:=λk=>by simp [Gs]
theorem Ajo {S:List (ByteArray×Bool)} {rows:List (List Int)} (h:Yr S rows) (t:List Int):Yr (Lv S (Aft t) true) (rows++[t]):=by
 intro k;rw [Ar0];by_cases hk:k=Aft t
 ·rw [ip0 hk];exact (dtr0 ⟨t,by simp,hk.symm⟩).symm
 ·rw [in0 hk,h k,decide_eq_decide];constructor
  ·rintro ⟨u,hu,e⟩;exact ⟨u,by simp [hu],e⟩
  ·rintro ⟨u,hu,e⟩;rcases List.mem_append.1 hu with h1 | h1
   ·exact ⟨u,h1,e⟩
   ·rw [List.mem_singleton.1 h1] at e;exact absurd e.symm hk
theorem Arn {n:Nat} (hn:0<n) : ∀r (xs:List Int),xs.length=r->Bz xs n->Ei n r (M8 n xs).toNat=xs:=by
 intro r
 induction r with
 | zero=>intro xs hl _;rw [List.length_eq_zero_iff.1 hl];rfl
 | succ r ih=>
   intro xs hl hx;obtain ⟨ys,y,rfl⟩ : ∃ys y,xs=ys++[y]:=⟨xs.take r,nth xs r,by rw [<-Cp (by omega),List.take_of_length_le (by omega)]⟩
   have hy:=hx y (by simp);have hys:Bz ys n:=λz hz=>hx z (by simp [hz])
   have hyl:ys.length=r:=by simpa using hl
   obtain ⟨c,h1,_⟩:=Zp r ys hyl hys;obtain ⟨d,rfl⟩:=Int.eq_ofNat_of_zero_le hy.1;have hd:d<n:=by omega
   have e:(M8 n (ys++[(d:Int)])).toNat=c*n+d:=by rw [Ada,h1,<-Int.natCast_mul,<-Int.natCast_add,tna0]
   rw [e];simp only [Ei];rw [show (c*n+d)/n=c by rw [Nat.mul_comm,Nat.mul_add_div hn,Nat.div_eq_of_lt hd];omega,show (c*n+d)%n=d by rw [Nat.mul_comm,Nat.mul_add_mod,Nat.mod_eq_of_lt hd]];have:=ih ys hyl hys;rw [h1,tna0] at this;rw [this]
theorem Awh {n k:Nat} (B:Nat) (hB:B<=1000000000) (h : ∀i,i<=k->n^i<=B) (hk:k<=1000):Ea n k=some ((n^k:Nat):Int):=by
 unfold Ea;have key:=Bw (body:=Dh n) (λj=>(((n^j:Nat):Int),((k:Int)-(j:Int)))) k ((n^k:Nat):Int) (λj hj=>by
  unfold Dh;dsimp only;have hp:=h (j+1) (by omega);rw [Nat.pow_succ] at hp;rw [ip0 (by omega),<-Int.natCast_mul,Nat.pow_succ];generalize n^j*n=N at hp ⊢;rw [Ag (by omega),Ag (by omega),show ((k:Int)-(j:Int)-1)=(k:Int)-((j+1:Nat):Int) by omega]) (by
  unfold Dh;dsimp only;rw [in0 (by omega)])
 have key':Aq (Dh n) (1,(k:Int))=some ((n^k:Nat):Int):=by simpa using key
 rw [key'];rfl
theorem Av3 {n k:Nat} (B:Nat) (hB:B<=1000000000) (h : ∀i,i<=k->n^i<=B) (hk:k<=1000):Dq n k=some ((n^k:Nat):Int):=by
 unfold Dq;have key:=Bw (body:=Di n) (λj=>(((n^j:Nat):Int),((k:Int)-(j:Int)))) k ((n^k:Nat):Int) (λj hj=>by
  unfold Di;dsimp only;have hp:=h (j+1) (by omega);rw [Nat.pow_succ] at hp;rw [ip0 (by omega),<-Int.natCast_mul,Nat.pow_succ];generalize n^j*n=N at hp ⊢;rw [Ag (by omega),Ag (by omega),show ((k:Int)-(j:Int)-1)=(k:Int)-((j+1:Nat):Int) by omega]) (by
  unfold Di;dsimp only;rw [in0 (by omega)])
 have key':Aq (Di n) (1,(k:Int))=some ((n^k:Nat):Int):=by simpa using key
 rw [key'];rfl
def Lc (n P:Nat) (f:SOp) (ts:List (List Int)):List Int:=(List.range P).map λx=>nth f.Table (M8 n (ts.map λt=>nth t x)).toNat
def Vi (n k p:Nat):List Int:=(List.range (n^k)).map λx=>nth (Ei n k x) p
theorem Anu (n P:Nat) (f:SOp) (ts:List (List Int)):(Lc n P f ts).length=P:=by simp [Lc]
theorem Apu (n k p:Nat):(Vi n k p).length=n^k:=by simp [Vi]
theorem Auu {n P:Nat} {f:SOp} {ts:List (List Int)} {x:Nat} (hx:x<P):nth (Lc n P f ts) x=nth f.Table (M8 n (ts.map λt=>nth t x)).toNat:=by unfold Lc;rw [G5 _ (by simpa using hx),Ys hx]
theorem Avd {n k p x:Nat} (hx:x<n^k):nth (Vi n k p) x=nth (Ei n k x) p:=by unfold Vi;rw [G5 _ (by simpa using hx),Ys hx]
def C4 (n P:Nat) (t:List Int):Prop:=t.length=P/\Bz t n
theorem A44 {n k p:Nat} (hn:0<n) (hp:p<k):C4 n (n^k) (Vi n k p):=by refine ⟨Apu _ _ _,λv hv=> ?_⟩;obtain ⟨x,hx,rfl⟩:=List.mem_map.1 hv;exact Atb hn k x _ (Ap (by rw [Gl];exact hp))
theorem Aie {n P:Nat} {ts:List (List Int)} (ht : ∀t∈ts,C4 n P t) {x:Nat} (hx:x<P):Bz (ts.map λt=>nth t x) n:=by intro v hv;obtain ⟨t,h1,rfl⟩:=List.mem_map.1 hv;obtain ⟨h2,h3⟩:=ht t h1;exact h3 _ (Ap (by omega))
theorem As3 {n P:Nat} {f:SOp} {ts:List (List Int)} (hf:Aey n f) (hl:ts.length=f.Arity.toNat) (ht : ∀t∈ts,C4 n P t):C4 n P (Lc n P f ts):=by refine ⟨Anu _ _ _ _,λv hv=> ?_⟩;obtain ⟨x,hx,rfl⟩:=List.mem_map.1 hv;have hx:=List.mem_range.1 hx;obtain ⟨c,h1,h2⟩:=Zp f.Arity.toNat _ (by simpa using hl) (Aie ht hx);rw [h1,tna0];exact hf.2.2.2 _ (Ap (by rw [hf.2.2.1];exact h2))
abbrev Clo:=List (List Int)×List SCloneStep
noncomputable def Ayt (s:Clo) (c:List Int×SCloneStep):Clo:=if c.1∈s.1 then s else (s.1++[c.1],s.2++[c.2])
def Fi (n P:Nat) (f:SOp) (op:Nat) (T:List (List Int)) (old i:Nat):List Int×SCloneStep:=
 (Lc n P f ((Ei old f.Arity.toNat i).map λx=>nth T x.toNat),{ Op:=op,Args:=Ei old f.Arity.toNat i })
def A4o (n P:Nat) (f:SOp) (op:Nat) (T:List (List Int)) (old:Nat):List (List Int×SCloneStep):=(List.range (old^f.Arity.toNat)).map (Fi n P f op T old)
def Atr (n P:Nat) (ops:List SOp) (T:List (List Int)) (old:Nat):List (List Int×SCloneStep):=(List.range ops.length).flatMap λop=>A4o n P (nth ops op) op T old
noncomputable def Awq (s:Clo) (l:List (List Int×SCloneStep)):Clo:=l.foldl Ayt s
theorem Aw2 (s:Clo) (c:List Int×SCloneStep) : ∃a,(Ayt s c).1=s.1++a:=by
 unfold Ayt;split
 ·exact ⟨[],by simp⟩
 ·exact ⟨[c.1],rfl⟩
theorem Az6 (l:List (List Int×SCloneStep)) : ∀s:Clo,∃a,(Awq s l).1=s.1++a:=by
 induction l with
 | nil=>intro s;exact ⟨[],by simp [Awq]⟩
 | cons c l ih=> intro s;obtain ⟨a,ha⟩:=Aw2 s c;obtain ⟨b,hb⟩:=ih (Ayt s c);exact ⟨a++b,by show (Awq (Ayt s c) l).1=_;rw [hb,ha,List.append_assoc]⟩
def Awl (n k:Nat) (ops:List SOp) (T:List (List Int)) (i:Nat) (s:SCloneStep) (t:List Int):Prop:=
 (s.Op = -1 /\ ∃p:Nat,p<k/\s.Args=[(p:Int)]/\t=Vi n k p) \/
 (∃op:Nat,op<ops.length/\s.Op=op/\s.Args.length=(nth ops op).Arity.toNat/\Bz s.Args i/\t=Lc n (n^k) (nth ops op) (s.Args.map λx=>nth T x.toNat))
structure InvC (n k:Nat) (ops:List SOp) (s:Clo):Prop where
 tabs : ∀t∈s.1,C4 n (n^k) t
 nodup:s.1.Nodup
 len:s.2.length=s.1.length
 steps : ∀i,i<s.1.length->Awl n k ops s.1 i (nth s.2 i) (nth s.1 i)
theorem Alo {n k:Nat} {ops:List SOp} {T T':List (List Int)} {i:Nat} {s:SCloneStep} {t:List Int} (h:Awl n k ops T i s t) (hT : ∀j,j<i->nth T j=nth T' j):Awl n k ops T' i s t:=by
 rcases h with h | ⟨op,h1,h2,h3,h4,h5⟩
 ·exact .inl h
 ·refine .inr ⟨op,h1,h2,h3,h4,?_⟩;rw [h5];congr 1;refine List.map_congr_left λx hx=> ?_
  have:=h4 x hx;exact hT _ (by omega)
theorem InvC.add {n k:Nat} {ops:List SOp} {s:Clo} (h:InvC n k ops s) {c:List Int×SCloneStep} (hc:C4 n (n^k) c.1) (hs:Awl n k ops s.1 s.1.length c.2 c.1):InvC n k ops (Ayt s c):=by
 unfold Ayt;split
 ·exact h
 rename_i hm;refine ⟨λt ht=> ?_,?_,by simp [h.len],λi hi=> ?_⟩
 ·rcases List.mem_append.1 ht with h1 | h1
  ·exact h.tabs t h1
  ·rw [List.mem_singleton.1 h1];exact hc
 ·rw [List.nodup_append];refine ⟨h.nodup,by simp,λa ha b hb=> ?_⟩;rw [List.mem_singleton.1 hb];rintro rfl;exact hm ha
 ·dsimp only at hi ⊢;by_cases hl:i<s.1.length
  ·rw [Ew (by rw [h.len];exact hl),Ew hl];exact Alo (h.steps i hl) λj hj=>(Ew (by omega)).symm
  ·have e:i=s.1.length:=by simp at hi;omega
   subst e;rw [Ps];conv=>rw [<-h.len,Ps,h.len]
   exact Alo hs λj hj=>(Ew hj).symm
theorem Pj {old r i:Nat} (hi:i<old^r):Bz (Ei old r i) old:=by
 by_cases h0:0<old
 ·exact Atb h0 r i
 ·have:old=0:=by omega
  subst this;cases r with
  | zero=>intro x hx;cases hx
  | succ r=>simp at hi
theorem Ayp {n k:Nat} {ops:List SOp} (hops : ∀f∈ops,Aey n f) {T:List (List Int)} {old:Nat} (hT : ∀j,j<old->C4 n (n^k) (nth T j)) {op i L:Nat} (hop:op<ops.length) (hi:i<old^(nth ops op).Arity.toNat) (hL:old<=L) {T':List (List Int)} (hTT : ∀j,j<old->nth T' j=nth T j) :
  C4 n (n^k) (Fi n (n^k) (nth ops op) op T old i).1/\Awl n k ops T' L (Fi n (n^k) (nth ops op) op T old i).2 (Fi n (n^k) (nth ops op) op T old i).1:=by
 have ha:=Pj hi;constructor
 ·refine As3 (hops _ (Ap hop)) (by simp [Gl]) λt ht=> ?_
  obtain ⟨x,hx,rfl⟩:=List.mem_map.1 ht;have:=ha x hx;exact hT _ (by omega)
 ·refine .inr ⟨op,hop,rfl,Gl _ _ _,λx hx=>by have:=ha x hx;omega,?_⟩;unfold Fi;dsimp only;congr 1;refine List.map_congr_left λx hx=> ?_
  have:=ha x hx;exact (hTT _ (by omega)).symm
theorem Ayf {n P:Nat} {ops:List SOp} {T:List (List Int)} {old:Nat} {c:List Int×SCloneStep}:c∈Atr n P ops T old ↔ ∃op,op<ops.length /\ ∃i,i<old^(nth ops op).Arity.toNat/\c=Fi n P (nth ops op) op T old i:=by
 unfold Atr A4o;rw [List.mem_flatMap];constructor
 ·rintro ⟨op,h1,h2⟩;obtain ⟨i,h3,rfl⟩:=List.mem_map.1 h2;exact ⟨op,List.mem_range.1 h1,i,List.mem_range.1 h3,rfl⟩
 ·rintro ⟨op,h1,i,h3,rfl⟩;exact ⟨op,List.mem_range.2 h1,List.mem_map.2 ⟨i,List.mem_range.2 h3,rfl⟩⟩
theorem InvC.adds {n k:Nat} {ops:List SOp} (hops : ∀f∈ops,Aey n f) {T:List (List Int)} {old:Nat} (hT : ∀j,j<old->C4 n (n^k) (nth T j)) : ∀(l:List (List Int×SCloneStep)) {s:Clo},InvC n k ops s->old<=s.1.length->(∀j,j<old->nth s.1 j=nth T j)->(∀c∈l,c∈Atr n (n^k) ops T old)->InvC n k ops (Awq s l):=by
 intro l
 induction l with
 | nil=>intro s h _ _ _;exact h
 | cons c l ih=> intro s h hl hj hc;obtain ⟨op,h1,i,h2,rfl⟩:=Ayf.1 (hc c (by simp));obtain ⟨c1,c2⟩:=Ayp hops hT h1 h2 hl hj;obtain ⟨a,ha⟩:=Aw2 s (Fi n (n^k) (nth ops op) op T old i);refine ih (h.add c1 c2) (by rw [ha,List.length_append];omega) (λj hj'=> ?_) (λd hd=>hc d (by simp [hd]));rw [ha,Ew (by omega)];exact hj j hj'
def A4n (n k:Nat) (ops:List SOp) (T:List (List Int)):Prop := ∀op,op<ops.length -> ∀qs:List (List Int),qs.length=(nth ops op).Arity.toNat->(∀t∈qs,t∈T)->Lc n (n^k) (nth ops op) qs∈T
structure CloC (n k:Nat) (ops:List SOp) (S:Clo):Prop where
 inv:InvC n k ops S
 le:S.1.length<=60
 closed:A4n n k ops S.1
 prj : ∀p,p<k->Vi n k p∈S.1
theorem A7f {xs:List Int} (h:xs.length<=LIM):Fc xs=some xs:=by unfold Fc;rw [Ag (by show 0+xs.length<=_;omega)];rfl
theorem A6b {n:Nat} (hn:0<n) : ∀(r k:Nat) (xs:List Int),r<=xs.length->xs.length<=1000->k<=1000000000->Aq (F6 n) ((r:Int)-1,xs,(k:Int))=some (Ei n r k++xs.drop r):=by
 intro r
 induction r with
 | zero=> intro k xs _ _ _;refine Bp ?_;unfold F6;dsimp only;rw [in0 (by omega)];simp [Ei]
 | succ r ih=>
   intro k xs hr hl hk;have c1:(k:Int).tdiv (n:Int)=((k/n:Nat):Int):=rfl;have c2:(k:Int).tmod (n:Int)=((k%n:Nat):Int):=rfl;have hd:k/n<=k:=Nat.div_le_self k n;have step:F6 n (((r+1:Nat):Int)-1,xs,(k:Int))=some (.inl ((r:Int)-1,xs.set r ((k%n:Nat):Int),((k/n:Nat):Int))):=by unfold F6;dsimp only;rw [show (((r+1:Nat):Int)-1)=(r:Int) by omega,c1,c2];generalize k/n=kd at hd;rw [ip0 (by omega),Ag (by omega),Ag (by omega),Ag (by omega),Ag (by omega),tna0]
   rw [C2 step,ih _ _ (by rw [List.length_set];omega) (by rw [List.length_set];exact hl) (by omega)];congr 1;simp only [Ei];rw [List.append_assoc];congr 1;have e:(xs.set r ((k%n:Nat):Int)).drop r=((k%n:Nat):Int)::xs.drop (r+1):=by
    refine List.ext_getElem (by simp;omega) λi h1 h2=> ?_
    rw [List.getElem_drop,List.getElem_set];cases i with
    | zero=>simp
    | succ i=> rw [in0 (by omega),List.getElem_cons_succ,List.getElem_drop];congr 1;omega
   rw [e];rfl
theorem Adc {n r k:Nat} (hn:0<n) (hr:r<=100) (hk:k<=1000000000):Hd n r k=some (Ei n r k):=by unfold Hd;rw [Ag (by rw [Ba];omega),Ag (by omega),tna0,A6b hn r k _ (by simp) (by simp;omega) hk];simp
theorem Ak1 {n r k:Nat} (hn:0<n) (hr:r<=100) (hk:k<=1000000000):Io k r n=some (Ei n r k):=by have:Io (k:Int) (r:Int) (n:Int)=Hd (n:Int) (r:Int) (k:Int):=rfl;rw [this];exact Adc hn hr hk
section
variable {n P:Nat} {f:SOp} {ts:List (List Int)}
theorem S7 (hn:n<=8) (hf:Aey n f) (hl:ts.length=f.Arity.toNat) (ht : ∀t∈ts,C4 n P t) (hP:P<=1000):Dz n f ts P=some (Lc n P f ts):=by
 have hL:=Ba;have hf3:=hf.2.1;have hts:ts.length<=3:=by omega
 have hcl:=Anu n P f ts;unfold Dz;rw [Ag (by omega)];have inner : ∀(x:Nat) (b:List Int),x<P->Aq (Cw n f ts P x b) (0,0)=some (M8 n (ts.map λt=>nth t x)):=by
  intro x b hx;have hin:=Aie ht hx;have key:=Bw (body:=Cw n f ts P x b) (λi=>((i:Int),M8 n ((ts.map λt=>nth t x).take i))) ts.length (M8 n (ts.map λt=>nth t x)) (λi hi=>by
   have htl:=(ht _ (Ap hi)).1;obtain ⟨h1,h2⟩:=Ac9 hn (xs:=ts.map λt=>nth t x) (by simpa using hts) hin (i:=i) (by simpa using hi);have hv:nth (ts.map λt=>nth t x) i=nth (nth ts i) x:=G5 _ hi;rw [hv] at h2;unfold Cw;dsimp only;rw [ip0 (by omega),Ag (by omega),Ag h1,tna0,Ag (by omega),tna0,Ag h2,Ag (by omega),Ade (by simpa using hi),hv];rfl) (by
   unfold Cw;dsimp only;rw [in0 (by omega),List.take_of_length_le (by simp)])
  exact key
 have key:=Bw (body:=C1 n f ts P) (λi=>((i:Int),(Lc n P f ts).take i++List.replicate (P-i) 0)) P (Lc n P f ts) (λi hi=>by
  have hin:=Aie ht hi;obtain ⟨c,c1,c2⟩:=Zp f.Arity.toNat _ (by simpa using hl) hin;rw [<-hf.2.2.1] at c2;have e:(Lc n P f ts).take (i+1)=(Lc n P f ts).take i++[nth f.Table c]:=by rw [Cp (by omega),Auu hi,c1,tna0]
  unfold C1;dsimp only;rw [ip0 (by omega),inner i _ hi,c1];simp only [obs0];rw [Ag (by omega),Ag (by simp;omega),Ag (by omega)];simp only [tna0];rw [Ata _ _ _ hi (by simp;omega),<-e];rfl) (by
  unfold C1;dsimp only;rw [in0 (by omega),List.take_of_length_le (by omega)];simp)
 simp only [List.take_zero,List.nil_append,Nat.sub_zero] at key;simp only [tna0];have key':Aq (C1 n f ts P) (0,List.replicate P 0)=_:=key;rw [key'];rfl
theorem Y6 (hn:n<=8) (hf:Aey n f) (hl:ts.length=f.Arity.toNat) (ht : ∀t∈ts,C4 n P t) (hP:P<=1000):Fh n f ts P=some (Lc n P f ts):=by
 have hL:=Ba;have hf3:=hf.2.1;have hts:ts.length<=3:=by omega
 have hcl:=Anu n P f ts;unfold Fh;have inner : ∀(x:Nat) (b:List Int),x<P->Aq (D6 n f ts P x b) (0,0)=some (M8 n (ts.map λt=>nth t x)):=by
  intro x b hx;have hin:=Aie ht hx;have key:=Bw (body:=D6 n f ts P x b) (λi=>((i:Int),M8 n ((ts.map λt=>nth t x).take i))) ts.length (M8 n (ts.map λt=>nth t x)) (λi hi=>by
   have htl:=(ht _ (Ap hi)).1;obtain ⟨h1,h2⟩:=Ac9 hn (xs:=ts.map λt=>nth t x) (by simpa using hts) hin (i:=i) (by simpa using hi);have hv:nth (ts.map λt=>nth t x) i=nth (nth ts i) x:=G5 _ hi;rw [hv] at h2;unfold D6;dsimp only;rw [ip0 (by omega),Ag h1,Ag (by omega),tna0,Ag (by omega),tna0,Ag h2,Ag (by omega),Ade (by simpa using hi),hv];rfl) (by
   unfold D6;dsimp only;rw [in0 (by omega),List.take_of_length_le (by simp)])
  exact key
 have key:=Bw (body:=D4 n f ts P) (λi=>((i:Int),(Lc n P f ts).take i)) P (Lc n P f ts) (λi hi=>by
  have hin:=Aie ht hi;obtain ⟨c,c1,c2⟩:=Zp f.Arity.toNat _ (by simpa using hl) hin;rw [<-hf.2.2.1] at c2;have e:(Lc n P f ts).take (i+1)=(Lc n P f ts).take i++[nth f.Table c]:=by rw [Cp (by omega),Auu hi,c1,tna0]
  unfold D4;dsimp only;rw [ip0 (by omega),inner i _ hi,c1];simp only [obs0];rw [Ag (by omega),Ag (by simp only [List.length_take,List.length_cons,List.length_nil];omega),Ag (by omega)];simp only [tna0];rw [<-e];rfl) (by
  unfold D4;dsimp only;rw [in0 (by omega),List.take_of_length_le (by omega)])
 have key':Aq (D4 n f ts P) (0,Av Int)=_:=key;rw [key'];rfl
end
theorem Auh {n k p:Nat} (hn1:0<n) (hn:n<=8) (hk:k<=3) (hp:p<k):Ib n k p=some (Vi n k p):=by
 have hL:=Ba;have hpw:=Ag3 hn hk;have hcl:=Apu n k p;unfold Ib;rw [Az0 hn hk];simp only [obs0];rw [Ag (by omega)];have key:=Bw (body:=Dw n k p ((n^k:Nat):Int)) (λi=>((i:Int),(Vi n k p).take i++List.replicate (n^k-i) 0)) (n^k) (Vi n k p) (λi hi=>by
  have hal:=Gl n k i;have e:(Vi n k p).take (i+1)=(Vi n k p).take i++[nth (Ei n k i) p]:=by rw [Cp (by omega),Avd hi]
  unfold Dw;dsimp only;rw [ip0 (by omega),Ak1 hn1 (by omega) (by omega)];simp only [obs0];rw [Ag (by omega),Ag (by simp;omega),Ag (by omega)];simp only [tna0];rw [Ata _ _ _ hi (by simp;omega),<-e];rfl) (by
  unfold Dw;dsimp only;rw [in0 (by omega),List.take_of_length_le (by omega)];simp)
 simp only [List.take_zero,List.nil_append,Nat.sub_zero] at key;simp only [tna0];have key':Aq (Dw n k p ((n^k:Nat):Int)) (0,List.replicate (n^k) 0)=_:=key;rw [key'];rfl
theorem Am0 {n k p:Nat} (hn1:0<n) (hn:n<=8) (hk:k<=3) (hp:p<k):Gn n k p=some (Vi n k p):=by
 have hL:=Ba;have hpw:=Ag3 hn hk;have hcl:=Apu n k p;unfold Gn;have key:=Bw (body:=Cu n k p) (λi=>((i:Int),(Vi n k p).take i)) (n^k) (Vi n k p) (λi hi=>by
  have hal:=Gl n k i;have e:(Vi n k p).take (i+1)=(Vi n k p).take i++[nth (Ei n k i) p]:=by rw [Cp (by omega),Avd hi]
  unfold Cu;dsimp only;rw [Ann hn hk];simp only [obs0];rw [ip0 (by omega),Adc hn1 (by omega) (by omega)];simp only [obs0];rw [Ag (by omega),Ag (by simp only [List.length_take,List.length_cons,List.length_nil];omega),Ag (by omega)];simp only [tna0];rw [<-e];rfl) (by
  unfold Cu;dsimp only;rw [Ann hn hk];simp only [obs0];rw [in0 (by omega),List.take_of_length_le (by omega)])
 have key':Aq (Cu n k p) (0,Av Int)=_:=key;rw [key'];rfl
theorem A3b {xs:List Int} (h:xs.length<=LIM):H9 xs=some xs:=by unfold H9;rw [Ag (by simpa using h)];simp
theorem Aw8 {T:List (List Int)} {t:List Int} (hT:T.length<=1048576) (hr : ∀u∈T,u.length<=LIM):(t∉T/\Bx T t=some (-1)) \/ ∃i,i<T.length/\nth T i=t/\(∀j,j<i->nth T j≠t)/\Bx T t=some (i:Int):=by
 have step : ∀i,i<T.length->Bg T t (i:Int)=if nth T i=t then some (.inr (.inl (i:Int))) else some (.inl ((i+1:Nat):Int)):=by
  intro i hi;unfold Bg;rw [ip0 (by omega),Ag (by omega),tna0,Aoz (hr _ (Ap hi))];simp only [obs0,decide_eq_true_eq];split
  ·rfl
  ·rw [Ag (by omega)];rfl
 have stop:Bg T t (T.length:Int)=some (.inr (.inr ())):=by unfold Bg;rw [in0 (by omega)]
 unfold Bx;by_cases h : ∃i,i<T.length/\nth T i=t
 ·right;obtain ⟨i,h1,h2,h3⟩ : ∃i,i<T.length/\nth T i=t /\ ∀j,j<i->nth T j≠t:=by
   have key : ∀m i,i<=m->i<T.length->nth T i=t -> ∃i,i<T.length/\nth T i=t /\ ∀j,j<i->nth T j≠t:=by
    intro m
    induction m with
    | zero=>intro i hm h1 h2;exact ⟨i,h1,h2,λj hj=>by omega⟩
    | succ m ih=>
      intro i hm h1 h2;by_cases hy : ∃j,j<i/\nth T j=t
      ·obtain ⟨j,k1,k2⟩:=hy;exact ih j (by omega) (by omega) k2
      ·exact ⟨i,h1,h2,λj k1 k2=>hy ⟨j,k1,k2⟩⟩
   obtain ⟨i,h1,h2⟩:=h;exact key i i (Nat.le_refl _) h1 h2
  refine ⟨i,h1,h2,h3,?_⟩;have key:=Aju (body:=Bg T t) (λi=>(i:Int)) 0 i (.inl (i:Int)) (Nat.zero_le _) (λj _ hj=>by rw [step j (by omega),in0 (h3 j hj)]) (by rw [step i h1,ip0 h2]);have key':Aq (Bg T t) 0=_:=key;rw [key'];rfl
 ·left;refine ⟨λhm=> ?_,?_⟩
  ·obtain ⟨i,h1,h2⟩:=Id.1 hm;exact h ⟨i,h1,h2⟩
  ·have key:=Bw (body:=Bg T t) (λi=>(i:Int)) T.length (.inr ()) (λj hj=>by rw [step j hj,in0 (λe=>h ⟨j,hj,e⟩)]) stop;have key':Aq (Bg T t) 0=_:=key;rw [key'];rfl
theorem Adq {n P:Nat} (hn:n<=8) {t:List Int} (h:C4 n P t) : ∀x∈t,0<=x/\x<65536:=λx hx=>by have:=h.2 x hx;omega
theorem Awz {α:Type} (A xs:List α) (j:Nat) (hA:A.length=j) (hj:j<xs.length) (v:α):(A++xs.drop j).set j v=(A++[v])++xs.drop (j+1):=by rw [List.set_append,in0 (by omega),hA,Nat.sub_self,List.drop_eq_getElem_cons hj,List.set_cons_zero];simp
structure RndC (n k:Nat) (ops:List SOp) (T:List (List Int)) (s:Clo):Prop where
 n1:0<n
 n8:n<=8
 k3:k<=3
 pl:n^k<=512
 ok : ∀f∈ops,Aey n f
 t0:0<T.length
 t60:T.length<=60
 tabs : ∀t∈T,C4 n (n^k) t
 inv:InvC n k ops s
 pre : ∃a,s.1=T++a
section
variable {n k:Nat} {ops:List SOp} {T:List (List Int)} {s:Clo}
theorem RndC.nth (h:RndC n k ops T s) {j:Nat} (hj:j<T.length):nth s.1 j=nth T j:=by obtain ⟨a,ha⟩:=h.pre;rw [ha,Ew hj]
theorem RndC.le (h:RndC n k ops T s):T.length<=s.1.length:=by obtain ⟨a,ha⟩:=h.pre;rw [ha,List.length_append];omega
theorem RndC.adds (h:RndC n k ops T s) {l:List (List Int×SCloneStep)} (hl : ∀c∈l,c∈Atr n (n^k) ops T T.length):RndC n k ops T (Awq s l):=by obtain ⟨a,ha⟩:=h.pre;obtain ⟨b,hb⟩:=Az6 l s;exact ⟨h.n1,h.n8,h.k3,h.pl,h.ok,h.t0,h.t60,h.tabs,InvC.adds h.ok (λj hj=>h.tabs _ (Ap hj)) l h.inv h.le (λj hj=>h.nth hj) hl,a++b,by rw [hb,ha,List.append_assoc]⟩
end
theorem Au0 {m b:Nat} (hm:0<m) : ∀(r j at':Nat),j+r<=100->at'<=1000000000->b<=1048576->Aq (Cn m ((j+r:Nat):Int) b) ((j:Int),(at':Int))=some (if ∃x∈Ei m r at',(b:Int)<=x then .inl () else .inr ()):=by
 intro r
 induction r with
 | zero=> intro j at' _ _ _;refine Bp ?_;unfold Cn;dsimp only;rw [in0 (by omega),in0 (by rintro ⟨x,hx,_⟩;cases hx)]
 | succ r ih=>
   intro j at' h1 h2 h3;have c1:(at':Int).tdiv (m:Int)=((at'/m:Nat):Int):=rfl;have c2:(at':Int).tmod (m:Int)=((at'%m:Nat):Int):=rfl;have hd:at'/m<=at':=Nat.div_le_self at' m;by_cases hb:b<=at'%m
   ·have:Aq (Cn m ((j+(r+1):Nat):Int) b) ((j:Int),(at':Int))=some (.inl ()):=Bp (by
     unfold Cn;dsimp only;rw [c2,ip0 (by omega),Ag (by omega),ip0 (by omega)])
    rw [this,ip0 ⟨((at'%m:Nat):Int),by simp [Ei],by omega⟩]
   ·have step:Cn m ((j+(r+1):Nat):Int) b ((j:Int),(at':Int))=some (.inl (((j+1:Nat):Int),((at'/m:Nat):Int))):=by
     unfold Cn;dsimp only;rw [c1,c2,ip0 (by omega),Ag (by omega),in0 (by omega)];generalize at'/m=kd at hd;rw [Ag ⟨by omega,by unfold InI;omega⟩,Ag (by omega)];rfl
    have:=ih (j+1) (at'/m) (by omega) (by omega) h3;rw [show j+1+r=j+(r+1) by omega] at this;rw [C2 step,this];congr 1;have hiff:(∃x∈Ei m r (at'/m),(b:Int)<=x) ↔ ∃x∈Ei m (r+1) at',(b:Int)<=x:=by
     constructor
     ·rintro ⟨x,hx,h⟩;exact ⟨x,by simp [Ei,hx],h⟩
     ·rintro ⟨x,hx,h⟩;simp only [Ei,List.mem_append,List.mem_singleton] at hx;rcases hx with hx | rfl
      ·exact ⟨x,hx,h⟩
      ·omega
    by_cases hh : ∃x∈Ei m r (at'/m),(b:Int)<=x
    ·rw [ip0 hh,ip0 (hiff.1 hh)]
    ·rw [in0 hh,in0 λh=>hh (hiff.2 h)]
def M0 (m r i b:Nat):Prop:=(∃x∈Ei m r i,(b:Int)<=x)\/b=0
theorem Aye {m b r i:Nat} (hm:0<m) (hr:r<=100) (hi:i<=1000000000) (hb:b<=1048576):Kp m r i b=some (decide (M0 m r i b)):=by
 unfold Kp;have:=Au0 (b:=b) hm r 0 i (by omega) hi hb;rw [Nat.zero_add] at this;have this':Aq (Cn m r b) (0,(i:Int))=_:=this;rw [this'];by_cases hh : ∃x∈Ei m r i,(b:Int)<=x
 ·rw [ip0 hh,dtr0 (show M0 m r i b from .inl hh)];rfl
 ·rw [in0 hh];simp only [obs0];by_cases h0:b=0
  ·rw [dtr0 (show M0 m r i b from .inr h0),h0];rfl
  ·rw [dfa0 (show ¬M0 m r i b from λh=>h.elim hh h0)];congr 1;simp;omega
def A4u (a:SAlgebra) (k:Int):Prop:=Aff a/\1<=k/\k<=3/\a.Size.toNat^k.toNat<=27
section
variable {a:SAlgebra} {k:Int}
theorem A4u.size (h:A4u a k) : ∃n m:Nat,a.Size=n/\k=m/\1<=n/\n<=8/\1<=m/\m<=3/\n^m<=27/\a.Size.toNat=n/\k.toNat=m:=by obtain ⟨g1,g2,_,_⟩:=h.1;obtain ⟨h1,h2,h3⟩:=h.2;exact ⟨a.Size.toNat,k.toNat,by omega,by omega,by omega,by omega,by omega,by omega,h3,rfl,rfl⟩
theorem A4u.ops (h:A4u a k) : ∀f∈a.Ops,Aey a.Size.toNat f:=h.1.2.2.2
theorem Asi {st:List SCloneStep} (hl:st.length<=1000) (ha : ∀s∈st,s.Args.length<=LIM):I7 st=some st:=by
 have hL:=Ba;unfold I7;have key:=Bw (body:=Fa st) (λi=>((i:Int),st.take i)) st.length st (λi hi=>by
  unfold Fa;dsimp only;rw [ip0 (by omega)];repeat rw [Ag (by omega)]
  rw [tna0,A7f (ha _ (Ap hi))];simp only [obs0];rw [Ag (by omega),Ag (by simp only [List.length_take,List.length_cons,List.length_nil];omega),Ag (by omega),Cp hi];rfl) (by
  unfold Fa;dsimp only;rw [in0 (by omega),List.take_length])
 have key':Aq (Fa st) (0,Av SCloneStep)=_:=key;rw [key'];rfl
end
theorem Av0 {xs ys:List Int} (h:xs.length<=LIM):L9 xs ys=some (decide (xs=ys)):=by
 have hL:=Ba;unfold L9;by_cases hl:xs.length=ys.length
 ·rw [in0 (by omega)];have this:=Fo (body:=Fq xs ys) (λi=>(i:Int)) xs.length (λi=>¬nth xs i=nth ys i) () () (λi hi hb=>by
   unfold Fq;rw [ip0 (by omega)];repeat rw [Ag (by omega)]
   simp only [tna0];rw [in0 (by simpa using hb)];repeat rw [Ag (by omega)]
   rfl) (λi hi hb=>by
   unfold Fq;rw [ip0 (by omega)];repeat rw [Ag (by omega)]
   simp only [tna0];rw [ip0 hb]) (by unfold Fq;rw [in0 (by omega)]) 0 (by omega)
  have this':Aq (Fq xs ys) 0=_:=this;rw [this'];by_cases hx : ∃i,0<=i/\i<xs.length/\¬nth xs i=nth ys i
  ·rw [ip0 hx,dfa0]
   ·rfl
   ·rintro rfl;obtain ⟨i,_,_,hc⟩:=hx;exact hc rfl
  ·rw [in0 hx,dtr0 (Atk hl (Kj.1 hx))];rfl
 ·rw [ip0 (by omega),dfa0 λe=>hl (by rw [e])]
theorem A4g {st:List SCloneStep} (hl:st.length<=1000) (ha : ∀s∈st,s.Args.length<=LIM):M7 st st=some true:=by
 unfold M7;rw [in0 (by simp)];have key:=Bw (body:=F8 st st) (λi=>(i:Int)) st.length (.inr ()) (λi hi=>by
  unfold F8;rw [ip0 (by omega)];repeat rw [Ag (by omega)]
  rw [in0 (by simp)];repeat rw [Ag (by omega)]
  rw [tna0,Av0 (ha _ (Ap hi))];simp only [obs0,decide_true,if_true];rfl) (by
  unfold F8;rw [in0 (by omega)])
 have key':Aq (F8 st st) 0=_:=key;rw [key'];rfl
theorem A39 {xs:List Int} (h:xs.length<=LIM):H9 xs=some xs:=by unfold H9;rw [Ag (by show 0+xs.length<=_;omega)];rfl
theorem Atl {xs:List Int} (h:xs.length<=LIM):Fc xs=some xs:=by unfold Fc;rw [Ag (by show 0+xs.length<=_;omega)];rfl
theorem Ais {α:Type} [Inhabited α] {xs:List α} {p:α->Prop}:(∀i,i<xs.length->p (nth xs i)) ↔ ∀x∈xs,p x:=by
 constructor
 ·intro h x hx;obtain ⟨i,h1,rfl⟩:=Id.1 hx;exact h i h1
 ·exact λh i hi=>h _ (Ap hi)
def Vw (c:SCondition):Prop:=c.Rules.length<=1000 /\ ∀r∈c.Rules,r.Left.length<=1000/\r.Right.length<=1000
def As6 (m:Int) (r:SRule):Prop:=((r.Left.length:Int)=m/\Bz r.Left 2)/\((r.Right.length:Int)=m\/(r.Right.length:Int)=1)/\Bz r.Right 2
def Ld (c:SCondition):Prop:=(2<=c.Arity/\c.Arity<=3)/\(1<=c.Rules.length/\c.Rules.length<=6) /\ ∀r∈c.Rules,As6 c.Arity r
theorem Sc {α β:Type} {o:Option α} {a:α} {k:α->Option β} {r:Option β} (h:o=some a) (h2:k a=r):o.bind k=r:=by rw [h];exact h2
theorem Adk {xs:List Int} (h:xs.length<=LIM):Gk xs=some (decide (Bz xs 2)):=by unfold Gk;rw [Y5 _ _ h];rfl
theorem A33 {xs:List Int} (h:xs.length<=LIM):El 2 xs=some (decide (Bz xs 2)):=by have:=Za 2 xs h (by rw [Ba];omega);exact this
theorem Ark {c:SCondition} (h:Vw c):Hp c=some (decide (Ld c)):=by
 have hL:=Ba;unfold Hp;by_cases h1:2<=c.Arity/\c.Arity<=3
 ·by_cases h2:1<=c.Rules.length/\c.Rules.length<=6
  ·rw [in0 (by omega),in0 (by omega),in0 (by omega),in0 (by omega)];simp only [obs0];have key:=Fo (body:=Do c) (λi=>(i:Int)) c.Rules.length (λi=>¬As6 c.Arity (nth c.Rules i)) () () (λi hi hb=>by
    obtain ⟨⟨b1,b2⟩,b3,b4⟩:=Classical.not_not.1 hb;have hs:=h.2 _ (Ap hi);unfold Do;rw [ip0 (by omega),Ag (by omega),tna0,in0 (λhc=>hc b1),Adk (by omega),Adk (by omega),dtr0 b2,dtr0 b4];simp only [obs0,if_true];rw [Ag (by omega)];split
    ·rw [in0 (by omega)];rfl
    ·rfl) (λi hi hb=>by
    have hs:=h.2 _ (Ap hi);unfold Do;rw [ip0 (by omega),Ag (by omega),tna0,Adk (by omega),Adk (by omega)];by_cases b1:((nth c.Rules i).Left.length:Int)=c.Arity
    ·rw [in0 (λhc=>hc b1)];simp only [obs0,decide_eq_true_eq];by_cases b3:((nth c.Rules i).Right.length:Int)=c.Arity\/((nth c.Rules i).Right.length:Int)=1
     ·by_cases b2:Bz (nth c.Rules i).Left 2
      ·by_cases b4:Bz (nth c.Rules i).Right 2
       ·exact absurd ⟨⟨b1,b2⟩,b3,b4⟩ hb
       ·rw [ip0 b2,in0 b4];split
        ·rw [in0 (by omega)]
        ·rfl
      ·rw [in0 b2];split
       ·rw [in0 (by omega)]
       ·rfl
     ·rw [ip0 (λhc=>b3 (.inl hc)),ip0 (λhc=>b3 (.inr hc))]
    ·rw [ip0 b1]) (by
    unfold Do;rw [in0 (by omega)]) 0 (Nat.zero_le _)
   refine (Ks key false true).trans (congrArg some (R5 ?_));rw [Kj,Ais];exact ⟨λhh=>⟨h1,h2,hh⟩,λhh=>hh.2.2⟩
  ·rw [in0 (by omega),in0 (by omega),dfa0 (λhc=>h2 hc.2.1)];by_cases h3:(c.Rules.length:Int)<1
   ·rw [ip0 h3];rfl
   ·rw [in0 h3,ip0 (by omega)];rfl
 ·rw [dfa0 (λhc=>h1 hc.1)];by_cases h3:c.Arity<2
  ·rw [ip0 h3];rfl
  ·rw [in0 h3,ip0 (by omega)];rfl
theorem Je {xs:List Int} (h:xs.length<=LIM) (k:Int):Ef xs k=some (decide ((xs.length:Int)=k/\Bz xs 2)):=by
 unfold Ef;by_cases hk:(xs.length:Int)=k
 ·rw [ip0 hk,A33 h];simp only [obs0];congr 1;rw [decide_eq_decide];exact ⟨λh2=>⟨hk,h2⟩,λh2=>h2.2⟩
 ·rw [in0 hk,dfa0 (λh2=>hk h2.1)]
theorem A0e {c:SCondition} (h:Vw c):Lh c=some (decide (Ld c)):=by
 have hL:=Ba;unfold Lh;rw [Rh,Rh];simp only [obs0,decide_eq_true_eq];by_cases h1:2<=c.Arity/\c.Arity<=3
 ·by_cases h2:1<=c.Rules.length/\c.Rules.length<=6
  ·rw [ip0 h1,ip0 (by omega)];simp only [obs0];have key:=Fo (body:=Fk c) (λi=>(i:Int)) c.Rules.length (λi=>¬As6 c.Arity (nth c.Rules i)) () () (λi hi hb=>by
    obtain ⟨b1,b3,b4⟩:=Classical.not_not.1 hb;have hs:=h.2 _ (Ap hi);unfold Fk;rw [ip0 (by omega),Ag (by omega),tna0,Je (by omega),Je (by omega),Je (by omega),dtr0 b1];simp only [obs0,if_true,decide_eq_true_eq];rw [Ag (by omega)];by_cases b5:((nth c.Rules i).Right.length:Int)=c.Arity
    ·rw [ip0 ⟨b5,b4⟩];rfl
    ·rw [in0 (λhc=>b5 hc.1),ip0 ⟨b3.resolve_left b5,b4⟩];rfl) (λi hi hb=>by
    have hs:=h.2 _ (Ap hi);unfold Fk;rw [ip0 (by omega),Ag (by omega),tna0,Je (by omega),Je (by omega),Je (by omega)];simp only [obs0,decide_eq_true_eq];by_cases b1:((nth c.Rules i).Left.length:Int)=c.Arity/\Bz (nth c.Rules i).Left 2
    ·rw [ip0 b1,in0 (λhc=>hb ⟨b1,.inl hc.1,hc.2⟩),in0 (λhc=>hb ⟨b1,.inr hc.1,hc.2⟩)]
    ·rw [in0 b1]) (by
    unfold Fk;rw [in0 (by omega)]) 0 (Nat.zero_le _)
   refine (Ks key false true).trans (congrArg some (R5 ?_));rw [Kj,Ais];exact ⟨λhh=>⟨h1,h2,hh⟩,λhh=>hh.2.2⟩
  ·rw [ip0 h1,in0 (by omega),dfa0 (λhc=>h2 hc.2.1)];rfl
 ·rw [in0 h1,dfa0 (λhc=>h1 hc.1)];rfl
noncomputable def Gy (ps:List (List Int)) (p:List Int):Int:=if p∈ps then (ps.idxOf p:Int) else -1
theorem Apx {ps:List (List Int)} {p:List Int} {i:Nat} (hi:i<ps.length) (h:nth ps i=p) (h2 : ∀j,j<i->¬nth ps j=p):Gy ps p=(i:Int):=by
 unfold Gy;rw [ip0 (h▸Ap hi)];congr 1;have hm:p∈ps:=h▸Ap hi;have h3:=List.idxOf_lt_length_iff.2 hm;have h4:nth ps (ps.idxOf p)=p:=by rw [Jr h3];exact List.getElem_idxOf h3
 rcases Nat.lt_trichotomy (ps.idxOf p) i with h5 | h5 | h5
 ·exact absurd h4 (h2 _ h5)
 ·exact h5
 ·have h6:(ps[i]==p)=false:=by simpa using List.not_of_lt_findIdx (p:=(· == p)) (xs:=ps) h5
  rw [Jr hi] at h;simp [h] at h6
theorem Ary {ps:List (List Int)} {p:List Int} (h : ∀i,i<ps.length->¬nth ps i=p):Gy ps p = -1:=by unfold Gy;rw [in0];intro hc;obtain ⟨i,h1,h2⟩:=Id.1 hc;exact h i h1 h2
theorem Adg {ps:List (List Int)} {p:List Int} (h:p∈ps) : ∃i:Nat,Gy ps p=(i:Int)/\i<ps.length/\nth ps i=p:=by have h3:=List.idxOf_lt_length_iff.2 h;refine ⟨ps.idxOf p,ip0 h,h3,?_⟩;rw [Jr h3];exact List.getElem_idxOf h3
theorem Abt {ps:List (List Int)} {p:List Int} (hp:p.length<=1000) (hl:ps.length<=100000):E6 ps p=some (Gy ps p):=by
 have hL:=Ba;unfold E6;rcases Ar1 (body:=Cs ps p) (λi=>(i:Int)) ps.length (λi=>nth ps i=p) (λi=> .inl (i:Int)) (.inr ()) (λi hi hb=>by
  unfold Cs;rw [ip0 (by omega),Ag (by omega),tna0,Apq (by omega),dfa0 (λhc=>hb hc.symm)];simp only [obs0,Bool.false_eq_true,if_false];rw [Ag (by omega)];rfl) (λi hi hb=>by
  unfold Cs;rw [ip0 (by omega),Ag (by omega),tna0,Apq (by omega),dtr0 hb.symm];simp only [obs0,if_true]) (by
  unfold Cs;rw [in0 (by omega)]) with ⟨i,hi,h1,h2,e⟩ | ⟨h1,e⟩
 ·have e':Aq (Cs ps p) 0=_:=e;rw [e',Apx hi h1 h2];rfl
 ·have e':Aq (Cs ps p) 0=_:=e;rw [e',Ary h1];rfl
theorem Ns {ps:List (List Int)} {p:List Int} (hps : ∀q∈ps,q.length<=1000) (hl:ps.length<=100000):Bx ps p=some (Gy ps p):=by
 have hL:=Ba;unfold Bx;rcases Ar1 (body:=Bg ps p) (λi=>(i:Int)) ps.length (λi=>nth ps i=p) (λi=> .inl (i:Int)) (.inr ()) (λi hi hb=>by
  have hs:=hps _ (Ap hi);unfold Bg;rw [ip0 (by omega),Ag (by omega),tna0,Aoz (by omega),dfa0 hb];simp only [obs0,Bool.false_eq_true,if_false];rw [Ag (by omega)];rfl) (λi hi hb=>by
  have hs:=hps _ (Ap hi);unfold Bg;rw [ip0 (by omega),Ag (by omega),tna0,Aoz (by omega),dtr0 hb];simp only [obs0,if_true]) (by
  unfold Bg;rw [in0 (by omega)]) with ⟨i,hi,h1,h2,e⟩ | ⟨h1,e⟩
 ·have e':Aq (Bg ps p) 0=_:=e;rw [e',Apx hi h1 h2];rfl
 ·have e':Aq (Bg ps p) 0=_:=e;rw [e',Ary h1];rfl
noncomputable def Ml (ps:List (List Int)) (p:List Int):List (List Int):=if p∈ps then ps else ps++[p]
noncomputable def Ald (m:Int) (ps:List (List Int)) (r:SRule):List (List Int):=if (r.Right.length:Int)=m then Ml (Ml ps r.Left) r.Right else Ml ps r.Left
noncomputable def M5 (m:Int) (rs:List SRule):List (List Int):=rs.foldl (Ald m) []
noncomputable def pats (c:SCondition):List (List Int):=M5 c.Arity c.Rules
theorem Adj {ps:List (List Int)} {p q:List Int} (h:q∈Ml ps p):q∈ps\/q=p:=by
 unfold Ml at h;split at h
 ·exact .inl h
 ·rcases List.mem_append.1 h with h | h
  ·exact .inl h
  ·exact .inr (List.mem_singleton.1 h)
theorem A0k {ps:List (List Int)} {p:List Int} (h:p∈ps):Ml ps p=ps:=ip0 h
theorem A23 {ps:List (List Int)} {p:List Int} (h:p∉ps):Ml ps p=ps++[p]:=in0 h
theorem Ajv (ps:List (List Int)) (p:List Int):p∈Ml ps p:=by
 unfold Ml;split
 ·assumption
 ·simp
theorem Rg {ps:List (List Int)} {p q:List Int} (h:q∈ps):q∈Ml ps p:=by
 unfold Ml;split
 ·exact h
 ·exact List.mem_append_left _ h
theorem Ac8 (ps:List (List Int)) (p:List Int):(Ml ps p).length<=ps.length+1:=by unfold Ml;split<;>simp
theorem L8 {ps:List (List Int)} {p:List Int}:Gy ps p<0↔p∉ps:=by
 unfold Gy;constructor
 ·intro h hp;rw [ip0 hp] at h;omega
 ·intro h;rw [in0 h];omega
theorem Agq (m:Int) (rs:List SRule) (r:SRule):M5 m (rs++[r])=Ald m (M5 m rs) r:=by unfold M5;rw [List.foldl_append];rfl
theorem A08 (m:Int) (ps:List (List Int)) (r:SRule):(Ald m ps r).length<=ps.length+2:=by unfold Ald;have h1:=Ac8 ps r.Left;have h2:=Ac8 (Ml ps r.Left) r.Right;split<;>omega
theorem Ak2 (m:Int) : ∀rs:List SRule,(∀r∈rs,As6 m r)->(M5 m rs).length<=2*rs.length/\(∀p∈M5 m rs,(p.length:Int)=m/\Bz p 2) /\ ∀r∈rs,r.Left∈M5 m rs/\((r.Right.length:Int)=m->r.Right∈M5 m rs):=by
 intro rs h;obtain ⟨n,hn⟩ : ∃n,rs.length=n:=⟨_,rfl⟩
 induction n generalizing rs with
 | zero=> have:rs=[]:=List.length_eq_zero_iff.1 hn;subst this;exact ⟨by simp [M5],λp hp=>by simp [M5] at hp,λr hr=>by simp at hr⟩
 | succ n ih=>
   obtain ⟨qs,r,rfl⟩ : ∃qs r,rs=qs++[r]:=⟨rs.take n,nth rs n,by rw [<-Cp (by omega),List.take_of_length_le (by omega)]⟩
   obtain ⟨i1,i2,i3⟩:=ih qs (λx hx=>h x (by simp [hx])) (by simpa using hn);obtain ⟨r1,r2,r3⟩:=h r (by simp);rw [Agq];refine ⟨?_,?_,?_⟩
   ·have:=A08 m (M5 m qs) r;rw [List.length_append,List.length_singleton];omega
   ·intro p hp;unfold Ald at hp;split at hp
    ·rename_i hR;rcases Adj hp with hp | rfl
     ·rcases Adj hp with hp | rfl
      ·exact i2 p hp
      ·exact r1
     ·exact ⟨hR,r3⟩
    ·rcases Adj hp with hp | rfl
     ·exact i2 p hp
     ·exact r1
   ·intro x hx;rcases List.mem_append.1 hx with hx | hx
    ·obtain ⟨j1,j2⟩:=i3 x hx;unfold Ald;split
     ·exact ⟨Rg (Rg j1),λhh=>Rg (Rg (j2 hh))⟩
     ·exact ⟨Rg j1,λhh=>Rg (j2 hh)⟩
    ·rw [List.mem_singleton.1 hx];unfold Ald;split
     ·exact ⟨Rg (Ajv _ _),λ_=>Ajv _ _⟩
     ·rename_i hR;exact ⟨Ajv _ _,λhh=>absurd hh hR⟩
theorem Ld.pats {c:SCondition} (h:Ld c):(pats c).length<=12/\(∀p∈pats c,(p.length:Int)=c.Arity/\Bz p 2) /\ ∀r∈c.Rules,r.Left∈Ax.pats c/\((r.Right.length:Int)=c.Arity->r.Right∈Ax.pats c):=by obtain ⟨h1,h2,h3⟩:=Ak2 c.Arity c.Rules h.2.2;have:=h.2.1.2;unfold Ax.pats;exact ⟨by omega,h2,h3⟩
theorem Ld.upto {c:SCondition} (h:Ld c) (i:Nat):(M5 c.Arity (c.Rules.take i)).length<=12 /\ ∀p∈M5 c.Arity (c.Rules.take i),p.length<=3:=by obtain ⟨h1,h2,_⟩:=Ak2 c.Arity (c.Rules.take i) (λr hr=>h.2.2 r (List.mem_of_mem_take hr));have h3:=h.2.1.2;have h4:=h.1.2;have h5:(c.Rules.take i).length<=6:=Nat.le_trans (by rw [List.length_take];exact Nat.min_le_right _ _) h3;exact ⟨by omega,λp hp=>by have:=(h2 p hp).1;omega⟩
theorem A11 {c:SCondition} (_h:Ld c) {ps:List (List Int)} (hps:ps.length<=100) {p:List Int} (hp:p.length<=3) :
  Fn p c ps=some ((),if (p.length:Int)=c.Arity then Ml ps p else ps):=by
 have hL:=Ba;unfold Fn;by_cases h1:(p.length:Int)=c.Arity
 ·rw [ip0 h1,ip0 h1,Abt (by omega) (by omega)];simp only [obs0];by_cases h2:p∈ps
  ·rw [in0 (λhc=>L8.1 hc h2)];unfold Ml;rw [ip0 h2]
  ·rw [ip0 (L8.2 h2),A39 (by omega)];simp only [obs0];rw [Ag (by simp;omega)];unfold Ml;rw [in0 h2]
 ·rw [in0 h1,in0 h1]
theorem Ub {c:SCondition} (h:Ld c):Ek c=some (pats c):=by
 have hL:=Ba;have h6:=h.2.1.2;have hA:=h.1.2;unfold Ek;have key:=Bw (body:=Dy c) (λi=>((i:Int),M5 c.Arity (c.Rules.take i))) c.Rules.length (pats c) (λi hi=>by
  obtain ⟨⟨b1,b2⟩,b3,b4⟩:=h.2.2 _ (Ap hi);obtain ⟨u1,u2⟩:=h.upto i;have u3:=Ac8 (M5 c.Arity (c.Rules.take i)) (nth c.Rules i).Left;unfold Dy;dsimp only;rw [ip0 (by omega),Ag (by omega),tna0,A11 h (by omega) (by omega)];simp only [obs0];rw [ip0 b1,A11 h (by omega) (by omega)];simp only [obs0];rw [Ag (by omega),Cp hi,Agq];rfl) (by
  unfold Dy;dsimp only;rw [in0 (by omega),List.take_length];rfl)
 have key':Aq (Dy c) (0,Av (List Int))=_:=key;rw [key'];rfl
theorem R3 {c:SCondition} (h:Ld c):D0 c=some (pats c):=by
 have hL:=Ba;have h6:=h.2.1.2;have hA:=h.1;unfold D0;have key:=Bw (body:=Dm c) (λi=>((i:Int),M5 c.Arity (c.Rules.take i))) c.Rules.length (pats c) (λi hi=>by
  obtain ⟨⟨b1,b2⟩,b3,b4⟩:=h.2.2 _ (Ap hi);obtain ⟨u1,u2⟩:=h.upto i;have u3:=Ac8 (M5 c.Arity (c.Rules.take i)) (nth c.Rules i).Left;have u4 : ∀p∈Ml (M5 c.Arity (c.Rules.take i)) (nth c.Rules i).Left,p.length<=1000:=λp hp=>by
   rcases Adj hp with hp | rfl
   ·have:=u2 p hp;omega
   ·omega
  unfold Dm;dsimp only;rw [ip0 (by omega),Ag (by omega),tna0,Ns (λq hq=>by have:=u2 q hq;omega) (by omega)];simp only [obs0];refine Sc (a:=Ml (M5 c.Arity (c.Rules.take i)) (nth c.Rules i).Left) ?_ ?_
  ·by_cases h2:(nth c.Rules i).Left∈M5 c.Arity (c.Rules.take i)
   ·rw [in0 (λhc=>L8.1 hc h2)];unfold Ml;rw [ip0 h2]
   ·rw [ip0 (L8.2 h2),Ag (by omega),Atl (by omega)];simp only [obs0];rw [Ag (by simp;omega)];unfold Ml;rw [in0 h2]
  ·rw [Ag (by omega),Ag (by omega),Ns u4 (by omega),Atl (by omega)];simp only [obs0];rw [Cp hi,Agq];unfold Ald;by_cases h3:((nth c.Rules i).Right.length:Int)=c.Arity
   ·rw [ip0 (by omega),ip0 h3];simp only [obs0,decide_eq_true_eq];by_cases h4:(nth c.Rules i).Right∈Ml (M5 c.Arity (c.Rules.take i)) (nth c.Rules i).Left
    ·rw [in0 (λhc=>L8.1 hc h4),Ag (by omega)];rw [A0k h4];rfl
    ·rw [ip0 (L8.2 h4),Ag (by omega),Ag (by simp;omega),Ag (by omega)];rw [A23 h4];rfl
   ·rw [in0 (by omega),in0 h3];simp only [obs0,Bool.false_eq_true,if_false];rw [Ag (by omega)];rfl) (by
  unfold Dm;dsimp only;rw [in0 (by omega),List.take_length];rfl)
 have key':Aq (Dm c) (0,Av (List Int))=_:=key;rw [key'];rfl
theorem Ax2 {p:List Int} {u v:Int} (hp:p.length<=1000) (h2:Bz p 2):L2 p [u,v]=some (p.map λq=>nth [u,v] q.toNat):=by
 have hL:=Ba;unfold L2;rw [Ag (by omega),tna0];have key:=Bw (body:=Ff p [u,v]) (λi=>((i:Int),(p.take i).map (λq=>nth [u,v] q.toNat)++List.replicate (p.length-i) 0)) p.length (p.map λq=>nth [u,v] q.toNat) (λi hi=>by
  have hq:=h2 _ (Ap hi);unfold Ff;dsimp only;rw [ip0 (by omega),Ag (by omega),tna0,Ag (by simp;omega),Ag (by simp;omega),Ag (by omega),Ata _ _ _ hi (by simp;omega),Cp hi];simp) (by
  unfold Ff;dsimp only;rw [in0 (by omega),List.take_length];simp)
 have key':Aq (Ff p [u,v]) (0,List.replicate p.length 0)=_:=key;rw [key'];rfl
def Abn (p:List Int) (x y:Nat):List Int:=p.map λq=>nth [(x:Int),(y:Int)] q.toNat
def Als (n:Nat) (T:List Int) (ps:List (List Int)) (j:Nat):Int:=nth T (M8 n (Abn (nth ps (j/(n*n))) (j/n%n) (j%n))).toNat
def Ato (n:Nat) (T:List Int) (ps:List (List Int)):List Int:=(List.range (ps.length*(n*n))).map (Als n T ps)
theorem Yw (p:List Int) (x y:Nat):(Abn p x y).length=p.length:=by simp [Abn]
theorem A80 {q:Int} (h:0<=q/\q<2) (u v:Int):nth [u,v] q.toNat=if q=1 then v else u:=by
 by_cases h1:q=1
 ·subst h1;rfl
 ·have:q=0:=by omega
  subst this;rfl
theorem Auq {p:List Int} {n x y:Nat} (hp:Bz p 2) (hx:x<n) (hy:y<n):Bz (Abn p x y) n:=by intro z hz;unfold Abn at hz;obtain ⟨q,hq,rfl⟩:=List.mem_map.1 hz;rw [A80 (hp q hq)];split<;>omega
structure RowR (n:Nat) (T:List Int) (ps:List (List Int)):Prop where
 lo:1<=n
 hi:n<=4
 len:ps.length<=12
 pat : ∀p∈ps,p.length<=3/\T.length=n^p.length/\Bz p 2
 tin:Bz T n
theorem A8v {n:Nat} (lo:1<=n) (hi:n<=4) {i x y:Nat} (hx:x<n) (hy:y<n):(i*(n*n)+x*n+y)/(n*n)=i/\(i*(n*n)+x*n+y)/n%n=x/\(i*(n*n)+x*n+y)%n=y:=by
 have hn:n=1\/n=2\/n=3\/n=4:=by omega
 rcases hn with rfl | rfl | rfl | rfl<;>omega
theorem Awm {n:Nat} (lo:1<=n) (hi:n<=4) (T:List Int) (ps:List (List Int)) {i x y:Nat} (hx:x<n) (hy:y<n):Als n T ps (i*(n*n)+x*n+y)=nth T (M8 n (Abn (nth ps i) x y)).toNat:=by obtain ⟨h1,h2,h3⟩:=A8v (i:=i) lo hi hx hy;unfold Als;rw [h1,h2,h3]
theorem Add {n:Nat} (lo:1<=n) (hi:n<=4) {N i x y:Nat} (hN:N<=100) (hI:i<N) (hx:x<n) (hy:y<n) :
  InI ((i:Int)*n)/\InI ((i:Int)*n*n)/\InI ((x:Int)*n)/\InI ((i:Int)*n*n+(x:Int)*n)/\InI ((i:Int)*n*n+(x:Int)*n+y)/\0<=(i:Int)*n*n+(x:Int)*n+y/\((i:Int)*n*n+(x:Int)*n+y).toNat=i*(n*n)+x*n+y/\i*(n*n)+x*n+y<N*(n*n):=by
 unfold InI;have hn:n=1\/n=2\/n=3\/n=4:=by omega
 rcases hn with rfl | rfl | rfl | rfl<;>omega
theorem Ahz {n:Nat} (hi:n<=4) {N:Nat} (hN:N<=100):InI ((N:Int)*n)/\InI ((N:Int)*n*n)/\(N:Int)*n*n=((N*(n*n):Nat):Int)/\N*(n*n)<=1600:=by
 unfold InI;have hn:n=0\/n=1\/n=2\/n=3\/n=4:=by omega
 rcases hn with rfl | rfl | rfl | rfl | rfl<;>omega
theorem A4j (n:Nat) (T:List Int) (ps:List (List Int)):(Ato n T ps).length=ps.length*(n*n):=by simp [Ato]
section
variable {n:Nat} {T:List Int} {ps:List (List Int)}
theorem RowR.at (h:RowR n T ps) {i x y:Nat} (hi:i<ps.length) (hx:x<n) (hy:y<n) : ∃k:Nat,M8 n (Abn (nth ps i) x y)=(k:Int)/\k<T.length:=by obtain ⟨h1,h2,h3⟩:=h.pat _ (Ap hi);have h4:=h.hi;obtain ⟨c,e,hc,_⟩:=Agm (m:=n) (by omega) (xs:=Abn (nth ps i) x y) (by rw [Yw];exact h1) (Auq h3 hx hy);rw [Yw] at hc;exact ⟨c,e,by omega⟩
theorem RowR.row_in (h:RowR n T ps):Bz (Ato n T ps) n:=by intro v hv;unfold Ato at hv;obtain ⟨j,hj,rfl⟩:=List.mem_map.1 hv;have hj:=List.mem_range.1 hj;have lo:=h.lo;have hnn:0<n*n:=Nat.mul_pos lo lo;have hi:j/(n*n)<ps.length:=Nat.div_lt_of_lt_mul (by rw [Nat.mul_comm];exact hj);obtain ⟨k,e,hk⟩:=h.at hi (x:=j/n%n) (y:=j%n) (Nat.mod_lt _ lo) (Nat.mod_lt _ lo);unfold Als;rw [e];exact h.tin _ (Ap (by simpa using hk))
theorem Ar4 (_lo:1<=n) (_hi:n<=4) (_hN:ps.length<=12) {g:Nat->Int}
  {b3:(Int×List Int)->Option ((Int×List Int) ⊕ List Int)} {b2:Nat->(Int×List Int)->Option ((Int×List Int) ⊕ List Int)} {b1:Nat->Nat->(Int×List Int)->Option ((Int×List Int) ⊕ List Int)}
  (h1 : ∀i x y k,i<ps.length->x<n->y<n->k=i*(n*n)+x*n+y->b1 i x ((y:Int),(List.range k).map g)=some (.inl (((y+1:Nat):Int),(List.range (k+1)).map g)))
  (h1e : ∀i x l,i<ps.length->x<n->b1 i x ((n:Int),l)=some (.inr l))
  (h2 : ∀i x l l',i<ps.length->x<n->Aq (b1 i x) ((0:Nat),l)=some l'->b2 i ((x:Int),l)=some (.inl (((x+1:Nat):Int),l')))
  (h2e : ∀i l,i<ps.length->b2 i ((n:Int),l)=some (.inr l))
  (h3 : ∀i l l',i<ps.length->Aq (b2 i) ((0:Nat),l)=some l'->b3 ((i:Int),l)=some (.inl (((i+1:Nat):Int),l')))
  (h3e : ∀l,b3 ((ps.length:Int),l)=some (.inr l)):Aq b3 ((0:Nat),[])=some ((List.range (ps.length*(n*n))).map g):=by
 have k3:=Bw (body:=b3) (λi=>((i:Int),(List.range (i*(n*n))).map g)) ps.length ((List.range (ps.length*(n*n))).map g) (λi hI=>by
  refine h3 i _ _ hI ?_;have k2:=Bw (body:=b2 i) (λx=>((x:Int),(List.range (i*(n*n)+x*n)).map g)) n ((List.range ((i+1)*(n*n))).map g) (λx hx=>by
   refine h2 i x _ _ hI hx ?_;have k1:=Bw (body:=b1 i x) (λy=>((y:Int),(List.range (i*(n*n)+x*n+y)).map g)) n ((List.range (i*(n*n)+(x+1)*n)).map g) (λy hy=>h1 i x y _ hI hx hy rfl) (by rw [h1e i x _ hI hx,Nat.succ_mul,Nat.add_assoc]);exact k1) (by
   rw [h2e i _ hI,Nat.succ_mul])
  have e0:(i*(n*n)+0*n)=i*(n*n):=by omega
  rw [e0] at k2;exact k2) (by
  rw [h3e])
 have e0:(0*(n*n))=0:=Nat.zero_mul _;rw [e0] at k3;exact k3
theorem A52 {c:SCondition} (hc:Ld c) (h:RowR n T (pats c)):Qb n T c=some (Ato n T (pats c)):=by
 have hL:=Ba;have lo:=h.lo;have hi:=h.hi;have hN:=h.len;unfold Qb;rw [Ub hc];simp only [obs0];have key:=Ar4 (n:=n) (ps:=pats c) lo hi hN (g:=Als n T (pats c)) (b3:=Gz n T (pats c)) (b2:=λi=>H6 n T (pats c) i) (b1:=λi x=>H8 n T (pats c) i x)
  (λi x y k hI hx hy hk=>by
   have hb:=(Add lo hi (N:=(pats c).length) (by omega) hI hx hy).2.2.2.2.2.2.2;have hsz:=(Ahz hi (N:=(pats c).length) (by omega)).2.2.2;obtain ⟨p1,p2,p3⟩:=h.pat _ (Ap hI);obtain ⟨z,e,hz⟩:=h.at hI hx hy;have he:I8 (Abn (nth (pats c) i) x y) n=some (M8 n (Abn (nth (pats c) i) x y)):=A0f (by omega) (by rw [Yw];exact p1) (Auq p3 hx hy);unfold H8;dsimp only;rw [ip0 (by omega),tna0,Ag hI,Ax2 (by omega) p3];simp only [obs0];rw [show (List.map (λq=>nth [(x:Int),(y:Int)] q.toNat) (nth (pats c) i))=Abn (nth (pats c) i) x y from rfl,he];simp only [obs0];have hc:nth T (M8 n (Abn (nth (pats c) i) x y)).toNat=Als n T (pats c) k:=by rw [hk,Awm lo hi T _ hx hy]
   rw [hc];rw [e,Ag (by omega),Ag (by simp;omega),Ag (by omega),List.range_succ,List.map_append];rfl)
  (λi x l hI hx=>by unfold H8;dsimp only;rw [in0 (by omega)])
  (λi x l l' hI hx e=>by unfold H6;dsimp only;rw [ip0 (by omega)];refine Sc e ?_;rw [Ag (by omega)];rfl)
  (λi l hI=>by unfold H6;dsimp only;rw [in0 (by omega)])
  (λi l l' hI e=>by unfold Gz;dsimp only;rw [ip0 (by omega),Ag (by omega)];refine Sc e ?_;rw [Ag (by omega)];rfl)
  (λl=>by unfold Gz;dsimp only;rw [in0 (by omega)])
 have key':Aq (Gz n T (pats c)) (0,Av Int)=_:=key;rw [key'];rfl
theorem Axv {f:SOp} (lo:1<=n) (hi:n<=4) (_hN:ps.length<=12) {i x y:Nat} (hI:i<ps.length) (hx:x<n) (hy:y<n) (p1:(nth ps i).length<=3) (p3:Bz (nth ps i) 2) (l:List Int) :
  Aq (Gb n f ps i x y l) (0,0)=some (M8 n (Abn (nth ps i) x y)):=by
 have key:=Bw (body:=Gb n f ps i x y l) (λk=>((k:Int),M8 n ((Abn (nth ps i) x y).take k))) (nth ps i).length (M8 n (Abn (nth ps i) x y)) (λk hk=>by
  have hk':k<(Abn (nth ps i) x y).length:=by rw [Yw];exact hk
  obtain ⟨h1,h2⟩:=Ac9 (m:=n) (by omega) (by rw [Yw];exact p1) (Auq p3 hx hy) hk';have hq:=p3 _ (Ap hk);have e:nth (Abn (nth ps i) x y) k=nth [(x:Int),(y:Int)] (nth (nth ps i) k).toNat:=G5 _ hk;rw [e] at h2;unfold Gb;dsimp only;rw [Ag (by omega),tna0,ip0 (by omega),Ag h1,Ag (by omega),Ag (by omega),tna0,Ag (by simp;omega),Ag h2,Ag (by omega),Ade hk',e];rfl) (by
  unfold Gb;dsimp only;rw [Ag (by omega),tna0,in0 (by omega),<-Yw (nth ps i) x y,List.take_length])
 exact key
theorem A22 {f:SOp} (h:RowR n f.Table ps):Nf n f ps=some (Ato n f.Table ps):=by
 have hL:=Ba;have lo:=h.lo;have hi:=h.hi;have hN:=h.len;unfold Nf;have key:=Ar4 (n:=n) (ps:=ps) lo hi hN (g:=Als n f.Table ps) (b3:=F1 n f ps) (b2:=λi=>Hg n f ps i) (b1:=λi x=>Hh n f ps i x)
  (λi x y k hI hx hy hk=>by
   have hb:=(Add lo hi (N:=ps.length) (by omega) hI hx hy).2.2.2.2.2.2.2;have hsz:=(Ahz hi (N:=ps.length) (by omega)).2.2.2;obtain ⟨p1,p2,p3⟩:=h.pat _ (Ap hI);obtain ⟨z,e,hz⟩:=h.at hI hx hy;unfold Hh;dsimp only;rw [ip0 (by omega),Axv lo hi hN hI hx hy p1 p3];simp only [obs0];have hc:nth f.Table (M8 n (Abn (nth ps i) x y)).toNat=Als n f.Table ps k:=by rw [hk,Awm lo hi _ _ hx hy]
   rw [hc];rw [e,Ag (by omega),Ag (by simp;omega),Ag (by omega),List.range_succ,List.map_append];rfl)
  (λi x l hI hx=>by unfold Hh;dsimp only;rw [in0 (by omega)])
  (λi x l l' hI hx e=>by unfold Hg;dsimp only;rw [ip0 (by omega)];refine Sc e ?_;rw [Ag (by omega)];rfl)
  (λi l hI=>by unfold Hg;dsimp only;rw [in0 (by omega)])
  (λi l l' hI e=>by unfold F1;dsimp only;rw [ip0 (by omega)];refine Sc e ?_;rw [Ag (by omega)];rfl)
  (λl=>by unfold F1;dsimp only;rw [in0 (by omega)])
 have key':Aq (F1 n f ps) (0,Av Int)=_:=key;rw [key'];rfl
end
noncomputable def Aqa (n:Nat) (row:List Int) (m:Int) (ps:List (List Int)) (r:SRule) (j:Nat):Int:=
 if (r.Right.length:Int)=m then nth row ((Gy ps r.Right).toNat*(n*n)+j) else nth [((j/n:Nat):Int),((j%n:Nat):Int)] (nth r.Right 0).toNat
def okC (n:Nat) (row:List Int) (m:Int) (ps:List (List Int)) (r:SRule) (j:Nat):Prop:=nth row ((Gy ps r.Left).toNat*(n*n)+j)=Aqa n row m ps r j
def Az (n:Nat) (row:List Int) (c:SCondition):Prop := ∀r∈c.Rules,∀j,j<n*n->okC n row c.Arity (pats c) r j
theorem Z4 {n:Nat} (lo:1<=n) (hi:n<=4) {N i j:Nat} (hN:N<=100) (hI:i<N) (hj:j<n*n) :
  InI ((i:Int)*n)/\InI ((i:Int)*n*n)/\InI ((i:Int)*n*n+j)/\0<=(i:Int)*n*n+j/\((i:Int)*n*n+j).toNat=i*(n*n)+j/\i*(n*n)+j<N*(n*n):=by
 unfold InI;have hn:n=1\/n=2\/n=3\/n=4:=by omega
 rcases hn with rfl | rfl | rfl | rfl<;>omega
section
variable {n:Nat} {row:List Int} {c:SCondition}
theorem Agh (lo:1<=n) (hi:n<=4) (hc:Ld c) (hrow:row.length=(pats c).length*(n*n)):Fs n row c (pats c)=some (decide (Az n row c)):=by
 have hL:=Ba;obtain ⟨hN,hpat,hmem⟩:=hc.pats;have h6:=hc.2.1.2;have hA:=hc.1;unfold Fs;have key:=Fo (body:=F5 n row c (pats c)) (λi=>(i:Int)) c.Rules.length (λi=>¬ ∀j,j<n*n->okC n row c.Arity (pats c) (nth c.Rules i) j) () () (λi hI hb=> ?_) (λi hI hb=> ?_) (by unfold F5;rw [in0 (by omega)]) 0 (Nat.zero_le _)
 ·refine (Ks key false true).trans (congrArg some (R5 ?_));rw [Kj,Ais (p:=λr => ∀j,j<n*n->okC n row c.Arity (pats c) r j)];rfl
 all_goals
  obtain ⟨⟨b1,b2⟩,b3,b4⟩:=hc.2.2 _ (Ap hI);obtain ⟨m1,m2⟩:=hmem _ (Ap hI);obtain ⟨a,ea,ha,_⟩:=Adg m1;have hs:(n*n)<=16:=Nat.mul_le_mul hi hi;have hnn:(n:Int)*n=((n*n:Nat):Int):=rfl;have hq:=b4 _ (Ap (xs:=(nth c.Rules i).Right) (i:=0) (by omega));have inner : ∀q6:Int,(if ((nth c.Rules i).Right.length:Int)=c.Arity then q6=Gy (pats c) (nth c.Rules i).Right else q6 = -1) ->
    Aq (D2 n row c (pats c) i (Gy (pats c) (nth c.Rules i).Left) q6) 0=some (if ∃j,0<=j/\j<n*n/\¬okC n row c.Arity (pats c) (nth c.Rules i) j then .inl () else .inr ()):=by
   intro q6 hq6;have step : ∀j,j<n*n->D2 n row c (pats c) i (Gy (pats c) (nth c.Rules i).Left) q6 (j:Int)=some (if okC n row c.Arity (pats c) (nth c.Rules i) j then .inl (((j+1:Nat):Int)) else .inr (.inl ())):=by
    intro j hj;obtain ⟨r1,r2,r3,r4,r5,r6⟩:=Z4 lo hi (N:=(pats c).length) (by omega) ha hj;have hd:j/n<=j:=Nat.div_le_self j n;have d1:(j:Int).tdiv (n:Int)=((j/n:Nat):Int):=rfl;have d2:(j:Int).tmod (n:Int)=((j%n:Nat):Int):=rfl;unfold D2;rw [hnn,d1,d2,Ag (by omega),ip0 (by omega),Ag ⟨by omega,by generalize j/n=jd at hd;unfold InI;omega⟩,Ag (by omega),tna0,Ag (by omega),Ag (by simp only [List.length_cons,List.length_nil];exact ⟨hq.1,hq.2⟩)];refine Sc (a:=Aqa n row c.Arity (pats c) (nth c.Rules i) j) ?_ ?_
    ·unfold Aqa;by_cases hR:((nth c.Rules i).Right.length:Int)=c.Arity
     ·rw [ip0 hR] at hq6;obtain ⟨b,eb,hb,_⟩:=Adg (m2 hR);obtain ⟨s1,s2,s3,s4,s5,s6⟩:=Z4 lo hi (N:=(pats c).length) (by omega) hb hj;rw [ip0 hR,hq6,eb,ip0 (by omega),Ag s1,Ag s2,Ag s3,Ag ⟨s4,by omega⟩,s5,tna0]
     ·rw [in0 hR] at hq6;rw [in0 hR,hq6,in0 (by omega)];rfl
    ·rw [ea,Ag r1,Ag r2,Ag r3,Ag ⟨r4,by omega⟩,r5];unfold okC;rw [ea,tna0];by_cases ho:nth row (a*(n*n)+j)=Aqa n row c.Arity (pats c) (nth c.Rules i) j
     ·rw [in0 (λhh=>hh ho),ip0 ho,Ag (by omega)];rfl
     ·rw [ip0 ho,in0 ho]
   have k1:=Fo (body:=D2 n row c (pats c) i (Gy (pats c) (nth c.Rules i).Left) q6) (λj=>(j:Int)) (n*n) (λj=>¬okC n row c.Arity (pats c) (nth c.Rules i) j) () () (λj hj hb=>by
    rw [step j hj,ip0 (Classical.not_not.1 hb)]) (λj hj hb=>by
    rw [step j hj,in0 hb]) (by
    unfold D2;rw [hnn,Ag (by omega),in0 (by omega)]) 0 (Nat.zero_le _)
   exact k1
  have two:((if ((nth c.Rules i).Right.length:Int)=c.Arity then (E6 (pats c) (nth c.Rules i).Right).bind λr5=>some r5 else some (-1):Option Int))=some (if ((nth c.Rules i).Right.length:Int)=c.Arity then Gy (pats c) (nth c.Rules i).Right else -1):=by
   split
   ·rw [Abt (by omega) (by omega)];rfl
   ·rfl
  unfold F5;rw [ip0 (by omega),Ag (by omega),tna0,Abt (by omega) (by omega)];simp only [obs0];refine Sc two ?_;rw [inner _ (by split<;>rfl)]
 ·rw [in0 (λ⟨j,_,hj,hh⟩=>hh (Classical.not_not.1 hb j hj))];simp only [obs0];rw [Ag (by omega)];rfl
 ·rw [ip0 (Classical.byContradiction λhh=>hb λj hj=>Classical.byContradiction λh2=>hh ⟨j,Nat.zero_le _,hj,h2⟩)];rfl
theorem Zh (lo:1<=n) (hi:n<=4) (hc:Ld c) (hrow:row.length=(pats c).length*(n*n)):Fr n row c (pats c)=some (decide (Az n row c)):=by
 have hL:=Ba;obtain ⟨hN,hpat,hmem⟩:=hc.pats;have h6:=hc.2.1.2;have hA:=hc.1;unfold Fr;have key:=Fo (body:=F2 n row c (pats c)) (λi=>(i:Int)) c.Rules.length (λi=>¬ ∀j,j<n*n->okC n row c.Arity (pats c) (nth c.Rules i) j) () () (λi hI hb=> ?_) (λi hI hb=> ?_) (by unfold F2;rw [in0 (by omega)]) 0 (Nat.zero_le _)
 ·refine (Ks key false true).trans (congrArg some (R5 ?_));rw [Kj,Ais (p:=λr => ∀j,j<n*n->okC n row c.Arity (pats c) r j)];rfl
 all_goals
  obtain ⟨⟨b1,b2⟩,b3,b4⟩:=hc.2.2 _ (Ap hI);obtain ⟨m1,m2⟩:=hmem _ (Ap hI);obtain ⟨a,ea,ha,_⟩:=Adg m1;have hq:=b4 _ (Ap (xs:=(nth c.Rules i).Right) (i:=0) (by omega));have hpl : ∀q∈pats c,q.length<=1000:=λq hq=>by have:=(hpat q hq).1;omega
  have inner : ∀r7:Int,r7=Gy (pats c) (nth c.Rules i).Right ->
    Aq (D3 n row c (pats c) i (Gy (pats c) (nth c.Rules i).Left) r7) 0=some (if ∃x,0<=x/\x<n/\¬ ∀y,y<n->okC n row c.Arity (pats c) (nth c.Rules i) (x*n+y) then .inl () else .inr ()):=by
   intro r7 hr7;have step : ∀x y,x<n->y<n->D1 n row c (pats c) i (Gy (pats c) (nth c.Rules i).Left) r7 (x:Int) (y:Int)=some (if okC n row c.Arity (pats c) (nth c.Rules i) (x*n+y) then .inl (((y+1:Nat):Int)) else .inr (.inl ())):=by
    intro x y hx hy;obtain ⟨r1,r2,r3,r4,r5,r6,r8,r9⟩:=Add lo hi (N:=(pats c).length) (by omega) ha hx hy;obtain ⟨_,i2,i3⟩:=A8v (i:=0) lo hi hx hy;have d1:(x*n+y)/n=x:=by rw [Nat.add_comm,Nat.add_mul_div_right _ _ (by omega),Nat.div_eq_of_lt hy];omega
    have d2:(x*n+y)%n=y:=by simpa using i3
    unfold D1;rw [ip0 (by omega),Ag (by omega),tna0,Ag (by omega),Ag (by simp only [List.length_cons,List.length_nil];exact ⟨hq.1,hq.2⟩),Ag (by omega)];refine Sc (a:=Aqa n row c.Arity (pats c) (nth c.Rules i) (x*n+y)) ?_ ?_
    ·unfold Aqa;by_cases hR:((nth c.Rules i).Right.length:Int)=c.Arity
     ·obtain ⟨b,eb,hb,_⟩:=Adg (m2 hR);obtain ⟨s1,s2,s3,s4,s5,s6,s7,s8⟩:=Add lo hi (N:=(pats c).length) (by omega) hb hx hy;rw [ip0 hR,hr7,eb,ip0 (by omega),Ag s3,Ag s4,Ag s5,Ag ⟨s6,by omega⟩,s7,tna0,Nat.add_assoc]
     ·rw [in0 hR,in0 (by omega),d1,d2];rfl
    ·rw [ea,Ag r3,Ag r4,Ag r5,Ag ⟨r6,by omega⟩,r8];unfold okC;rw [ea,tna0,<-Nat.add_assoc];by_cases ho:nth row (a*(n*n)+x*n+y)=Aqa n row c.Arity (pats c) (nth c.Rules i) (x*n+y)
     ·rw [in0 (λhh=>hh ho),ip0 ho,Ag (by omega)];rfl
     ·rw [ip0 ho,in0 ho]
   have k1 : ∀x,x<n->Aq (D1 n row c (pats c) i (Gy (pats c) (nth c.Rules i).Left) r7 (x:Int)) 0=some (if ∃y,0<=y/\y<n/\¬okC n row c.Arity (pats c) (nth c.Rules i) (x*n+y) then .inl () else .inr ()):=λx hx=>
    Fo (body:=D1 n row c (pats c) i (Gy (pats c) (nth c.Rules i).Left) r7 (x:Int)) (λj=>(j:Int)) n (λy=>¬okC n row c.Arity (pats c) (nth c.Rules i) (x*n+y)) () () (λy hy hb=>by
     rw [step x y hx hy,ip0 (Classical.not_not.1 hb)]) (λy hy hb=>by
     rw [step x y hx hy,in0 hb]) (by
     unfold D1;rw [in0 (by omega)]) 0 (Nat.zero_le _)
   have k2:=Fo (body:=D3 n row c (pats c) i (Gy (pats c) (nth c.Rules i).Left) r7) (λj=>(j:Int)) n (λx=>¬ ∀y,y<n->okC n row c.Arity (pats c) (nth c.Rules i) (x*n+y)) () () (λx hx hb=>by
    unfold D3;rw [ip0 (by omega),k1 x hx,in0 (λ⟨y,_,hy,hh⟩=>hh (Classical.not_not.1 hb y hy))];simp only [obs0];rw [Ag (by omega)];rfl) (λx hx hb=>by
    unfold D3;rw [ip0 (by omega),k1 x hx,ip0 (Classical.byContradiction λhh=>hb λy hy=>Classical.byContradiction λh2=>hh ⟨y,Nat.zero_le _,hy,h2⟩)];rfl) (by
    unfold D3;rw [in0 (by omega)]) 0 (Nat.zero_le _)
   exact k2
  have same:(∃x,0<=x/\x<n/\¬ ∀y,y<n->okC n row c.Arity (pats c) (nth c.Rules i) (x*n+y))↔¬ ∀j,j<n*n->okC n row c.Arity (pats c) (nth c.Rules i) j:=by
   constructor
   ·rintro ⟨x,_,hx,hh⟩ hall;refine hh λy hy=>hall _ ?_
    have:x*n+n<=n*n:=by rw [<-Nat.succ_mul];exact Nat.mul_le_mul_right n hx
    omega
   ·intro hh;refine Classical.byContradiction λhc2=>hh λj hj=> ?_
    have h1:j/n<n:=Nat.div_lt_of_lt_mul hj;have h2:j%n<n:=Nat.mod_lt _ (by omega);have h3:j/n*n+j%n=j:=by rw [Nat.mul_comm];exact Nat.div_add_mod j n
    rw [<-h3];exact Classical.byContradiction λh4=>hc2 ⟨j/n,Nat.zero_le _,h1,λhall=>h4 (hall _ h2)⟩
  have q1:=Ahz hi (N:=(pats c).length) (by omega);have q2:=Z4 lo hi (N:=(pats c).length) (by omega) ha (j:=0) (Nat.mul_pos lo lo);have q3:InI (Gy (pats c) (nth c.Rules i).Right*n)/\InI (Gy (pats c) (nth c.Rules i).Right*n*n):=by
   unfold Gy;split
   ·rename_i hm;have:=Z4 lo hi (N:=(pats c).length) (by omega) (List.idxOf_lt_length_iff.2 hm) (j:=0) (Nat.mul_pos lo lo);exact ⟨this.1,this.2.1⟩
   ·unfold InI;have hn:n=1\/n=2\/n=3\/n=4:=by omega
    rcases hn with rfl | rfl | rfl | rfl<;>omega
  unfold F2;rw [ip0 (by omega),Ag (by omega),tna0,Ns hpl (by omega)];simp only [obs0];rw [Ag (by rw [ea];exact q2.1),Ag (by rw [ea];exact q2.2.1),Ag (by omega),Ns hpl (by omega)];simp only [obs0];rw [Ag q3.1,Ag q3.2,inner _ rfl]
 ·rw [in0 (λhh=>same.1 hh (Classical.not_not.1 hb))];simp only [obs0];rw [Ag (by omega)];rfl
 ·rw [ip0 (same.2 hb)];rfl
end
structure SrchR where
 T:List (List Int)
 S:List SCloneStep
 m:Nat
 e:Nat
noncomputable def Gu (ob:List Int->Prop) (s:SrchR) (c:List Int×SCloneStep):SrchR:=
 if s.e≠0\/c.1∈s.T then s else if s.T.length=150 then { s with e:=2 } else { T:=s.T++[c.1],S:=s.S++[c.2],m:=s.m,e:=if ob c.1 then 1 else 0 }
noncomputable def S9 (ob:List Int->Prop) (s:SrchR) (c:List Int×SCloneStep):SrchR:=
 if s.e≠0 then s else if s.m=100000 then { s with e:=2 } else Gu ob { s with m:=s.m+1 } c
noncomputable def X6 (ob:List Int->Prop) (s:SrchR) (l:List (List Int×SCloneStep)):SrchR:=l.foldl (S9 ob) s
noncomputable def Ac5 (ob:List Int->Prop) (s:SrchR) (l:List (List Int×SCloneStep)):SrchR:=l.foldl (Gu ob) s
theorem Aox (ob:List Int->Prop) (s:SrchR) (l:List (List Int×SCloneStep)) (c:List Int×SCloneStep):X6 ob s (l++[c])=S9 ob (X6 ob s l) c:=by simp [X6]
theorem Axy (ob:List Int->Prop) (s:SrchR) (l:List (List Int×SCloneStep)) (c:List Int×SCloneStep):Ac5 ob s (l++[c])=Gu ob (Ac5 ob s l) c:=by simp [Ac5]
theorem Az9 {ob:List Int->Prop} {s:SrchR} (h:s.e≠0) (c:List Int×SCloneStep):Gu ob s c=s:=ip0 (.inl h)
theorem Awb {ob:List Int->Prop} {s:SrchR} (h:s.e≠0) (c:List Int×SCloneStep):S9 ob s c=s:=ip0 h
theorem Ar3 {ob:List Int->Prop} {s:SrchR} (h:s.e≠0) : ∀l,X6 ob s l=s
 | []=>rfl
 | c::l=>by show X6 ob (S9 ob s c) l=s;rw [Awb h];exact Ar3 h l
theorem Ak3 (ob:List Int->Prop) (s:SrchR) (c:List Int×SCloneStep) :
  Gu ob s c=s\/(s.e=0/\c.1∉s.T/\s.T.length=150/\Gu ob s c={ s with e:=2 }) \/
  (s.e=0/\c.1∉s.T/\s.T.length≠150/\Gu ob s c={ T:=s.T++[c.1],S:=s.S++[c.2],m:=s.m,e:=if ob c.1 then 1 else 0 }):=by
 unfold Gu;by_cases h1:s.e≠0\/c.1∈s.T
 ·exact .inl (ip0 h1)
 ·have h2:s.e=0:=Classical.byContradiction λh=>h1 (.inl h)
  have h3:c.1∉s.T:=λh=>h1 (.inr h)
  rw [in0 h1];by_cases h4:s.T.length=150
  ·exact .inr (.inl ⟨h2,h3,h4,ip0 h4⟩)
  ·exact .inr (.inr ⟨h2,h3,h4,in0 h4⟩)
section
variable {n P:Nat} {ops:List SOp} {ob:List Int->Prop} {first:List (List Int)}
def Ae9 (P:Nat) (n:Nat) (ops:List SOp) (first T:List (List Int)) (i:Nat) (s:SCloneStep) (t:List Int):Prop:=
 (s.Op = -1 /\ ∃p,p<first.length/\s.Args=[(p:Int)]/\t=nth first p) \/
 (∃op,op<ops.length/\s.Op=(op:Int)/\s.Args.length=(nth ops op).Arity.toNat/\Bz s.Args i/\t=Lc n P (nth ops op) (s.Args.map λx=>nth T x.toNat))
structure InvS (n P:Nat) (ops:List SOp) (first:List (List Int)) (ob:List Int->Prop) (s:SrchR):Prop where
 tabs : ∀t∈s.T,C4 n P t
 len:s.S.length=s.T.length
 sml:s.T.length<=150
 steps : ∀i,i<s.T.length->Ae9 P n ops first s.T i (nth s.S i) (nth s.T i)
 no : ∀i,i<s.T.length->(s.e≠1\/i+1<s.T.length)->¬ob (nth s.T i)
 yes:s.e=1->0<s.T.length/\ob (nth s.T (s.T.length-1))
 two:s.e=0\/s.e=1\/s.e=2
 cnt:s.m<=100000
theorem Alj {T T':List (List Int)} {i:Nat} {s:SCloneStep} {t:List Int} (h:Ae9 P n ops first T i s t) (hT : ∀j,j<i->nth T j=nth T' j):Ae9 P n ops first T' i s t:=by
 rcases h with h | ⟨op,h1,h2,h3,h4,h5⟩
 ·exact .inl h
 ·refine .inr ⟨op,h1,h2,h3,h4,h5.trans ?_⟩;congr 1;refine List.map_congr_left λx hx=> ?_
  have:=h4 x hx;exact hT _ (by omega)
theorem InvS.add {s:SrchR} (h:InvS n P ops first ob s) {c:List Int×SCloneStep} (hc:C4 n P c.1) (hs:s.e=0->Ae9 P n ops first s.T s.T.length c.2 c.1):InvS n P ops first ob (Gu ob s c):=by
 rcases Ak3 ob s c with e | ⟨h0,_,_,e⟩ | ⟨h0,hn,hl,e⟩
 ·rw [e];exact h
 ·rw [e];exact ⟨h.tabs,h.len,h.sml,h.steps,λi hi _=>h.no i hi (.inl (by omega)),λhh=>by simp at hh,.inr (.inr rfl),h.cnt⟩
 ·rw [e];have hsm:=h.sml;have hT : ∀j,j<s.T.length->nth (s.T++[c.1]) j=nth s.T j:=λj hj=>Ew hj
  have hS : ∀j,j<s.T.length->nth (s.S++[c.2]) j=nth s.S j:=λj hj=>Ew (by rw [h.len];exact hj)
  have hTl:nth (s.T++[c.1]) s.T.length=c.1:=Ps;have hSl:nth (s.S++[c.2]) s.T.length=c.2:=by rw [<-h.len];exact Ps
  refine ⟨λt ht=> ?_,by simp [h.len],by simp;omega,λi hi=> ?_,λi hi hh=> ?_,λhh=> ?_,?_,h.cnt⟩
  ·rcases List.mem_append.1 ht with ht | ht
   ·exact h.tabs t ht
   ·rw [List.mem_singleton.1 ht];exact hc
  ·simp only [List.length_append,List.length_singleton] at hi;by_cases hil:i<s.T.length
   ·show Ae9 P n ops first (s.T++[c.1]) i (nth (s.S++[c.2]) i) (nth (s.T++[c.1]) i)
    rw [hT i hil,hS i hil];exact Alj (h.steps i hil) λj hj=>(hT j (by omega)).symm
   ·have:i=s.T.length:=by omega
    subst this;show Ae9 P n ops first (s.T++[c.1]) s.T.length (nth (s.S++[c.2]) s.T.length) (nth (s.T++[c.1]) s.T.length)
    rw [hTl,hSl];exact Alj (hs h0) λj hj=>(hT j hj).symm
  ·simp only [List.length_append,List.length_singleton] at hi hh;show ¬ob (nth (s.T++[c.1]) i);by_cases hil:i<s.T.length
   ·rw [hT i hil];exact h.no i hil (.inl (by omega))
   ·have:i=s.T.length:=by omega
    subst this;rw [hTl];rcases hh with hh | hh
    ·intro ho;rw [ip0 ho] at hh;exact hh rfl
    ·omega
  ·simp only [List.length_append,List.length_singleton];refine ⟨by omega,?_⟩;show ob (nth (s.T++[c.1]) (s.T.length+1-1));rw [Nat.add_sub_cancel,hTl];by_cases ho:ob c.1
   ·exact ho
   ·exfalso;simp only [in0 ho] at hh;omega
  ·show (if ob c.1 then 1 else 0)=0\/(if ob c.1 then 1 else 0)=1\/(if ob c.1 then 1 else 0)=2;split
   ·exact .inr (.inl rfl)
   ·exact .inl rfl
theorem InvS.m {s:SrchR} (h:InvS n P ops first ob s) {k:Nat} (hk:k<=100000):InvS n P ops first ob { s with m:=k }:=⟨h.tabs,h.len,h.sml,h.steps,h.no,h.yes,h.two,hk⟩
theorem InvS.try {s:SrchR} (h:InvS n P ops first ob s) {c:List Int×SCloneStep} (hc:C4 n P c.1) (hs:s.e=0->Ae9 P n ops first s.T s.T.length c.2 c.1):InvS n P ops first ob (S9 ob s c):=by
 unfold S9;by_cases h0:s.e≠0
 ·rw [ip0 h0];exact h
 ·rw [in0 h0];by_cases hm:s.m=100000
  ·rw [ip0 hm];exact ⟨h.tabs,h.len,h.sml,h.steps,λi hi _=>h.no i hi (.inl (by omega)),λhh=>by simp at hh,.inr (.inr rfl),h.cnt⟩
  ·rw [in0 hm];exact (h.m (k:=s.m+1) (by have:=h.cnt;omega)).add hc hs
theorem Arv (ob:List Int->Prop) (s:SrchR) (c:List Int×SCloneStep) : ∃a,(Gu ob s c).T=s.T++a:=by
 rcases Ak3 ob s c with e | ⟨_,_,_,e⟩ | ⟨_,_,_,e⟩
 ·exact ⟨[],by rw [e];simp⟩
 ·exact ⟨[],by rw [e];simp⟩
 ·exact ⟨[c.1],by rw [e]⟩
theorem A3f (ob:List Int->Prop) (s:SrchR) (c:List Int×SCloneStep) : ∃a,(S9 ob s c).T=s.T++a:=by
 unfold S9;split
 ·exact ⟨[],by simp⟩
 ·split
  ·exact ⟨[],by simp⟩
  ·exact Arv ob { s with m:=s.m+1 } c
theorem Ajp (ob:List Int->Prop) : ∀(l:List (List Int×SCloneStep)) (s:SrchR),∃a,(X6 ob s l).T=s.T++a
 | [],s=>⟨[],by simp [X6]⟩
 | c::l,s=>by obtain ⟨a,ha⟩:=A3f ob s c;obtain ⟨b,hb⟩:=Ajp ob l (S9 ob s c);exact ⟨a++b,by rw [<-List.append_assoc,<-ha,<-hb];rfl⟩
theorem Auv {s:SrchR} {c:List Int×SCloneStep} (h:(Gu ob s c).e=0):c.1∈(Gu ob s c).T/\s.e=0:=by
 unfold Gu at h ⊢;by_cases h1:s.e≠0\/c.1∈s.T
 ·rw [ip0 h1] at h ⊢;exact ⟨h1.resolve_left (λhh=>hh h),h⟩
 ·have h2:s.e=0:=Classical.byContradiction λh=>h1 (.inl h)
  rw [in0 h1] at h ⊢;by_cases h4:s.T.length=150
  ·rw [ip0 h4] at h;simp at h
  ·rw [in0 h4];exact ⟨by simp,h2⟩
theorem A4z {s:SrchR} {c:List Int×SCloneStep} (h:(S9 ob s c).e=0):c.1∈(S9 ob s c).T/\s.e=0:=by
 unfold S9 at h ⊢;by_cases h0:s.e≠0
 ·rw [ip0 h0] at h;exact absurd h h0
 ·rw [in0 h0] at h ⊢;by_cases hm:s.m=100000
  ·rw [ip0 hm] at h;simp at h
  ·rw [in0 hm] at h ⊢;exact ⟨(Auv h).1,Classical.not_not.1 h0⟩
theorem Aw3 : ∀(l:List (List Int×SCloneStep)) {s:SrchR},(X6 ob s l).e=0->s.e=0 /\ ∀c∈l,c.1∈(X6 ob s l).T
 | [],s,h=>⟨h,nofun⟩
 | c::l,s,h=>by
   have h':(X6 ob (S9 ob s c) l).e=0:=h;obtain ⟨h1,h2⟩:=Aw3 l h';obtain ⟨h3,h4⟩:=A4z h1;refine ⟨h4,λd hd=> ?_⟩;rcases List.mem_cons.1 hd with rfl | hd
   ·obtain ⟨a,ha⟩:=Ajp ob l (S9 ob s d);show d.1∈(X6 ob (S9 ob s d) l).T;rw [ha];exact List.mem_append_left _ h3
   ·exact h2 d hd
noncomputable def Agy (n P:Nat) (f:SOp) (op:Nat) (T:List (List Int)) (b m:Nat):List (List Int×SCloneStep):=
 ((List.range m).filter λi=>decide (M0 T.length f.Arity.toNat i b)).map (Fi n P f op T T.length)
theorem Ak9 (n P:Nat) (f:SOp) (op:Nat) (T:List (List Int)) (b i:Nat):Agy n P f op T b (i+1)=if M0 T.length f.Arity.toNat i b then Agy n P f op T b i++[Fi n P f op T T.length i] else Agy n P f op T b i:=by
 unfold Agy;rw [List.range_succ,List.filter_append,List.map_append];by_cases h:M0 T.length f.Arity.toNat i b
 ·rw [ip0 h];simp [h]
 ·rw [in0 h];simp [h]
noncomputable def opS (n P:Nat) (ops:List SOp) (ob:List Int->Prop) (T:List (List Int)) (b:Nat) (s:SrchR) (op i:Nat):SrchR:=X6 ob s (Agy n P (nth ops op) op T b i)
noncomputable def K8 (n P:Nat) (ops:List SOp) (ob:List Int->Prop) (T:List (List Int)) (b:Nat) (s:SrchR):Nat->SrchR
 | 0=>s
 | k+1=>opS n P ops ob T b (K8 n P ops ob T b s k) k (T.length^(nth ops k).Arity.toNat)
noncomputable def Fb (n P:Nat) (ops:List SOp) (ob:List Int->Prop) (s:SrchR) (b:Nat):SrchR:=K8 n P ops ob s.T b s ops.length
noncomputable def Sj (n P:Nat) (ops:List SOp) (ob:List Int->Prop):Nat->Nat->SrchR->SrchR
 | 0,_,s=>s
 | k+1,b,s=>if b<s.T.length/\s.e=0 then Sj n P ops ob k s.T.length (Fb n P ops ob s b) else s
def Ash (first:List (List Int)):List (List Int×SCloneStep):=(List.range first.length).map λp=>(nth first p,{ Op:= -1,Args:=[(p:Int)] })
noncomputable def N9 (first:List (List Int)) (ob:List Int->Prop):SrchR:=Ac5 ob { T:=[],S:=[],m:=0,e:=0 } (Ash first)
noncomputable def Ai6 (n P:Nat) (ops:List SOp) (first:List (List Int)) (ob:List Int->Prop):SrchR:=Sj n P ops ob 200 0 (N9 first ob)
theorem Ajf (T:List (List Int)) (b:Nat) (s:SrchR) (op i:Nat) : ∃a,(opS n P ops ob T b s op i).T=s.T++a:=Ajp ob _ s
theorem Sq (T:List (List Int)) (b:Nat) (s:SrchR) : ∀k,∃a,(K8 n P ops ob T b s k).T=s.T++a
 | 0=>⟨[],by simp [K8]⟩
 | k+1=>by obtain ⟨a,ha⟩:=Sq T b s k;obtain ⟨c,hc⟩:=Ajf (n:=n) (P:=P) (ops:=ops) (ob:=ob) T b (K8 n P ops ob T b s k) k (T.length^(nth ops k).Arity.toNat);exact ⟨a++c,by rw [<-List.append_assoc,<-ha];exact hc⟩
theorem A4y {T:List (List Int)} {b:Nat} {s:SrchR} (h:s.e≠0) (op i:Nat):opS n P ops ob T b s op i=s:=Ar3 h _
theorem Anm {T a:List (List Int)} {j:Nat} (hj:j<T.length):nth (T++a) j=nth T j:=Ew hj
variable (hops : ∀f∈ops,Aey n f)
include hops
theorem Anr {T:List (List Int)} (hT : ∀t∈T,C4 n P t) {op i:Nat} (hop:op<ops.length) (hi:i<T.length^(nth ops op).Arity.toNat):C4 n P (Fi n P (nth ops op) op T T.length i).1:=by
 have hin:=Pj hi;refine As3 (hops _ (Ap hop)) (by simp [Gl]) λt ht=> ?_
 obtain ⟨x,hx,rfl⟩:=List.mem_map.1 ht;have:=hin x hx;exact hT _ (Ap (by omega))
omit hops in
theorem Axx {T a:List (List Int)} {op i:Nat} (hop:op<ops.length) (hi:i<T.length^(nth ops op).Arity.toNat):Ae9 P n ops first (T++a) (T++a).length (Fi n P (nth ops op) op T T.length i).2 (Fi n P (nth ops op) op T T.length i).1:=by
 have hin:=Pj hi;refine .inr ⟨op,hop,rfl,Gl _ _ _,λx hx=> ?_,?_⟩
 ·have:=hin x hx;simp only [List.length_append];omega
 ·show Lc n P (nth ops op) _=_;congr 1;refine List.map_congr_left λx hx=> ?_
  have:=hin x hx;exact (Anm (by omega)).symm
theorem InvS.op {T:List (List Int)} (hT : ∀t∈T,C4 n P t) {b:Nat} {op:Nat} (hop:op<ops.length) : ∀(i:Nat),i<=T.length^(nth ops op).Arity.toNat -> ∀ {s:SrchR},InvS n P ops first ob s->(∃a,s.T=T++a)->InvS n P ops first ob (opS n P ops ob T b s op i)
 | 0,_,s,h,_=>h
 | i+1,hi,s,h,hp=>by
   have ih:=InvS.op hT (b:=b) hop i (by omega) h hp;have e:opS n P ops ob T b s op (i+1)=if M0 T.length (nth ops op).Arity.toNat i b then S9 ob (opS n P ops ob T b s op i) (Fi n P (nth ops op) op T T.length i) else opS n P ops ob T b s op i:=by
    unfold opS;rw [Ak9];split
    ·rw [Aox]
    ·rfl
   rw [e];split
   ·refine ih.try (Anr hops hT hop (by omega)) λ_=> ?_
    obtain ⟨a,ha⟩:=hp;obtain ⟨c,hc⟩:=Ajf (n:=n) (P:=P) (ops:=ops) (ob:=ob) T b s op i;rw [hc,ha,List.append_assoc];exact Axx hop (by omega)
   ·exact ih
theorem InvS.opss {T:List (List Int)} (hT : ∀t∈T,C4 n P t) {b:Nat} {s:SrchR} (h:InvS n P ops first ob s) (hp : ∃a,s.T=T++a) : ∀k,k<=ops.length->InvS n P ops first ob (K8 n P ops ob T b s k)
 | 0,_=>h
 | k+1,hk=>by have ih:=InvS.opss hT (b:=b) h hp k (by omega);refine InvS.op hops hT (b:=b) (show k<ops.length by omega) _ (Nat.le_refl _) ih ?_;obtain ⟨a,ha⟩:=hp;obtain ⟨c,hc⟩:=Sq (n:=n) (P:=P) (ops:=ops) (ob:=ob) T b s k;exact ⟨a++c,by rw [hc,ha,List.append_assoc]⟩
theorem InvS.round {s:SrchR} (h:InvS n P ops first ob s) (b:Nat):InvS n P ops first ob (Fb n P ops ob s b):=InvS.opss hops h.tabs h ⟨[],by simp⟩ _ (Nat.le_refl _)
theorem InvS.run : ∀(k b:Nat) {s:SrchR},InvS n P ops first ob s->InvS n P ops first ob (Sj n P ops ob k b s)
 | 0,_,_,h=>h
 | k+1,b,s,h=>by
   unfold Sj;split
   ·exact InvS.run k _ (h.round hops b)
   ·exact h
omit hops in
theorem InvS.adds : ∀(l:List (List Int×SCloneStep)) {s:SrchR},InvS n P ops first ob s->(∀c∈l,C4 n P c.1 /\ ∀T i,Ae9 P n ops first T i c.2 c.1)->InvS n P ops first ob (Ac5 ob s l)
 | [],_,h,_=>h
 | c::l,s,h,hl=>by have hc:=hl c (by simp);exact InvS.adds l (h.add hc.1 λ_=>hc.2 _ _) λd hd=>hl d (by simp [hd])
omit hops in
theorem InvS.init (hf : ∀t∈first,C4 n P t):InvS n P ops first ob (N9 first ob):=by
 refine InvS.adds _ ⟨nofun,rfl,by simp,λi hi=>by simp at hi,λi hi=>by simp at hi,λh=>by simp at h,.inl rfl,by simp⟩ λc hc=> ?_
 obtain ⟨p,hp,rfl⟩:=List.mem_map.1 hc;have hp':=List.mem_range.1 hp;exact ⟨hf _ (Ap hp'),λT i=> .inl ⟨rfl,p,hp',rfl,rfl⟩⟩
theorem InvS.find (hf : ∀t∈first,C4 n P t):InvS n P ops first ob (Ai6 n P ops first ob):=InvS.run hops _ _ (InvS.init hf)
def upR (n P:Nat) (ops:List SOp) (T:List (List Int)) (b:Nat):Prop:=b=0 \/ ∀op,op<ops.length -> ∀xs:List Int,xs.length=(nth ops op).Arity.toNat->Bz xs b->Lc n P (nth ops op) (xs.map λx=>nth T x.toNat)∈T
omit hops in
theorem A2t {s:SrchR} {b:Nat} (hb:upR n P ops s.T b) (_hbl:b<=s.T.length) (hpos:0<s.T.length) (h0:(Fb n P ops ob s b).e=0):upR n P ops (Fb n P ops ob s b).T s.T.length:=by
 obtain ⟨a,ha⟩:=Sq (n:=n) (P:=P) (ops:=ops) (ob:=ob) s.T b s ops.length;have key : ∀k,k<=ops.length->(K8 n P ops ob s.T b s k).e=0 -> ∀op,op<k -> ∀c∈Agy n P (nth ops op) op s.T b (s.T.length^(nth ops op).Arity.toNat),c.1∈(K8 n P ops ob s.T b s k).T:=by
  intro k
  induction k with
  | zero=>intro _ _ op hop;omega
  | succ k ih=>
    intro hk he op hop c hc;have he':(X6 ob (K8 n P ops ob s.T b s k) (Agy n P (nth ops k) k s.T b (s.T.length^(nth ops k).Arity.toNat))).e=0:=he;obtain ⟨e1,e2⟩:=Aw3 _ he';by_cases h:op=k
    ·subst h;exact e2 c hc
    ·obtain ⟨d,hd⟩:=Ajf (n:=n) (P:=P) (ops:=ops) (ob:=ob) s.T b (K8 n P ops ob s.T b s k) k (s.T.length^(nth ops k).Arity.toNat);show c.1∈(opS n P ops ob s.T b (K8 n P ops ob s.T b s k) k (s.T.length^(nth ops k).Arity.toNat)).T;rw [hd];exact List.mem_append_left _ (ih (by omega) e1 op (by omega) c hc)
 have hall:=key ops.length (Nat.le_refl _) h0;refine .inr λop hop xs hl hx=> ?_
 have hrows:(xs.map λx=>nth (Fb n P ops ob s b).T x.toNat)=xs.map λx=>nth s.T x.toNat:=List.map_congr_left λx hx'=>by have:=hx x hx';show nth (K8 n P ops ob s.T b s ops.length).T x.toNat=_;rw [ha];exact Anm (by omega)
 rw [hrows];obtain ⟨c,hc1,hc2⟩:=Zp xs.length xs rfl hx;rw [hl] at hc2;have harg:Ei s.T.length (nth ops op).Arity.toNat c=xs:=by
  have:=Arn hpos _ xs hl hx
  rwa [hc1,tna0] at this
 by_cases hfr:M0 s.T.length (nth ops op).Arity.toNat c b
 ·have:=hall op hop (Fi n P (nth ops op) op s.T s.T.length c) (List.mem_map.2 ⟨c,List.mem_filter.2 ⟨List.mem_range.2 hc2,dtr0 hfr⟩,rfl⟩);have e:(Fi n P (nth ops op) op s.T s.T.length c).1=Lc n P (nth ops op) (xs.map λx=>nth s.T x.toNat):=by
   show Lc n P (nth ops op) ((Ei s.T.length (nth ops op).Arity.toNat c).map _)=_;rw [harg]
  rw [e] at this;exact this
 ·have hb0:b≠0:=λh=>hfr (.inr h)
  have hxb:Bz xs b:=λx hx'=>⟨(hx x hx').1,Classical.byContradiction λh=>hfr (.inl ⟨x,by rw [harg];exact hx',by omega⟩)⟩
  have:=(hb.resolve_left hb0) op hop xs hl hxb;show _∈(K8 n P ops ob s.T b s ops.length).T;rw [ha];exact List.mem_append_left _ this
omit hops in
theorem Aot : ∀(k b:Nat) {s:SrchR},upR n P ops s.T b->b<=s.T.length->0<s.T.length->s.T.length<=150->150<b+k->(∀s':SrchR,InvS n P ops first ob s'->s'.T.length<=150)->InvS n P ops first ob s->(∀f∈ops,Aey n f)->(Sj n P ops ob k b s).e=0 -> ∀op,op<ops.length -> ∀xs:List Int,xs.length=(nth ops op).Arity.toNat->Bz xs (Sj n P ops ob k b s).T.length->Lc n P (nth ops op) (xs.map λx=>nth (Sj n P ops ob k b s).T x.toNat)∈(Sj n P ops ob k b s).T
 | 0,b,s,_,h1,_,h3,h4,_,_,_,_=>by omega
 | k+1,b,s,hu,h1,h2,h3,h4,hsm,hi,ho,he=>by
   unfold Sj at he ⊢;by_cases hc:b<s.T.length/\s.e=0
   ·rw [ip0 hc] at he ⊢;have hr0:(Fb n P ops ob s b).e=0:=by
     refine Classical.byContradiction λhh=> ?_
     have:Sj n P ops ob k s.T.length (Fb n P ops ob s b)=Fb n P ops ob s b:=by
      cases k with
      | zero=>rfl
      | succ k=>unfold Sj;rw [in0 (λhx=>hh hx.2)]
     rw [this] at he;exact hh he
    have hi':=hi.round ho b;obtain ⟨a,ha⟩:=Sq (n:=n) (P:=P) (ops:=ops) (ob:=ob) s.T b s ops.length;have hlen:s.T.length<=(Fb n P ops ob s b).T.length:=by show _<=(K8 n P ops ob s.T b s ops.length).T.length;rw [ha];simp
    exact Aot k s.T.length (A2t hu h1 h2 hr0) hlen (by omega) hi'.sml (by omega) hsm hi' ho he
   ·rw [in0 hc] at he ⊢;have hb:b=s.T.length:=by omega
    rcases hu with hu | hu
    ·omega
    ·rw [<-hb];exact hu
theorem Avx (hf : ∀t∈first,C4 n P t) (hf0:0<first.length) (he:(Ai6 n P ops first ob).e=0) :
  (∀t∈first,t∈(Ai6 n P ops first ob).T) /\ ∀op,op<ops.length -> ∀xs:List Int,xs.length=(nth ops op).Arity.toNat->Bz xs (Ai6 n P ops first ob).T.length->Lc n P (nth ops op) (xs.map λx=>nth (Ai6 n P ops first ob).T x.toNat)∈(Ai6 n P ops first ob).T:=by
 have hi:InvS n P ops first ob (N9 first ob):=InvS.init hf
 have pre : ∀(k b:Nat) (s:SrchR),∃a,(Sj n P ops ob k b s).T=s.T++a:=by
  intro k
  induction k with
  | zero=>exact λb s=>⟨[],by simp [Sj]⟩
  | succ k ih=>
    intro b s;unfold Sj;split
    ·obtain ⟨a,ha⟩:=Sq (n:=n) (P:=P) (ops:=ops) (ob:=ob) s.T b s ops.length;obtain ⟨c,hc⟩:=ih s.T.length (Fb n P ops ob s b);exact ⟨a++c,by rw [hc,<-List.append_assoc,<-ha];rfl⟩
    ·exact ⟨[],by simp⟩
 have ends : ∀(k b:Nat) (s:SrchR),s.e≠0->Sj n P ops ob k b s=s:=λk b s h=>by
  cases k with
  | zero=>rfl
  | succ k=>unfold Sj;rw [in0 (λhx=>h hx.2)]
 have hi0:(N9 first ob).e=0:=Classical.byContradiction λhh=>by unfold Ai6 at he;rw [ends _ _ _ hh] at he;exact hh he
 have addsin : ∀(l:List (List Int×SCloneStep)) (s:SrchR),(Ac5 ob s l).e=0->(∀c∈l,c.1∈(Ac5 ob s l).T)/\s.e=0 /\ ∃a,(Ac5 ob s l).T=s.T++a:=by
  intro l
  induction l with
  | nil=>exact λs h=>⟨nofun,h,[],by simp [Ac5]⟩
  | cons c l ih=>
    intro s h;obtain ⟨h1,h2,a,ha⟩:=ih (Gu ob s c) h;obtain ⟨h3,h4⟩:=Auv h2;obtain ⟨d,hd⟩:=Arv ob s c;refine ⟨λe he'=> ?_,h4,d++a,by rw [<-List.append_assoc,<-hd];exact ha⟩;rcases List.mem_cons.1 he' with rfl | he'
    ·show e.1∈(Ac5 ob (Gu ob s e) l).T;rw [ha];exact List.mem_append_left _ h3
    ·exact h1 e he'
 obtain ⟨m1,_,_⟩:=addsin (Ash first) _ hi0;have hin : ∀t∈first,t∈(N9 first ob).T:=λt ht=>by obtain ⟨p,hp,rfl⟩:=Id.1 ht;exact m1 _ (List.mem_map.2 ⟨p,List.mem_range.2 hp,rfl⟩)
 obtain ⟨a,ha⟩:=pre 200 0 (N9 first ob);refine ⟨λt ht=> ?_,?_⟩
 ·unfold Ai6;rw [ha];exact List.mem_append_left _ (hin t ht)
 ·have h0:0<(N9 first ob).T.length:=List.length_pos_of_mem (hin _ (Ap hf0));exact Aot 200 0 (.inl rfl) (Nat.zero_le _) h0 hi.sml (by omega) (λs' hs=>hs.sml) hi hops he
end
def Acs (c:SCondition):Prop:=c.Rules.length<=10 /\ ∀r∈c.Rules,r.Left.length<=5/\r.Right.length<=5
theorem Sl {c:SCondition} (h:Acs c):Vw c:=⟨by have:=h.1;omega,λr hr=>by have:=h.2 r hr;omega⟩
theorem A1w {c:Sl1Cur} {k:Nat} (h:Cur k c) (hk:k<=900000000) (l:List ByteArray) (h0:0<l.length) : ∃r d,Kq c l=some (r,d)/\Cur (k+2) d:=by unfold Kq;obtain ⟨r,d,e,hd,a1,a2⟩:=B8 h hk (l.length:Int);simp only [e,obs0];rw [Ag (by omega)];exact ⟨_,_,rfl,hd⟩
theorem A0d {α β γ δ:Type} {o:Option (α×β)} {k:α×β->Option (γ×δ)} {P:β->Prop} {Q:γ->δ->Prop} (h : ∃a b,o=some (a,b)/\P b) (h2 : ∀a b,P b -> ∃c d,k (a,b)=some (c,d)/\Q c d) : ∃c d,o.bind k=some (c,d)/\Q c d:=by obtain ⟨a,b,e,hb⟩:=h;rw [e];exact h2 a b hb
theorem Ayb (s:ByteArray) : ∃c,Kl s=some c/\Acs c:=by
 unfold Kl
 repeat' refine A3n (λ_=> ?_) (λ_=> ?_)
 all_goals
  refine ⟨_,rfl,?_⟩;unfold Acs;decide
def Alv (r:SRule):Prop:=(1<=r.Left.length/\r.Left.length<=3)/\r.Right.length<=3
theorem V3 {c:Sl1Cur} {k:Nat} (h:Cur k c) (hk:k<=600000000) : ∃a d,Df c=some (a,d)/\Cur (k+1000) d/\Acs a:=by
 have hL:=Ba;unfold Df;obtain ⟨b,d,e,hd⟩:=Nh h (by omega) 4;rw [e];simp only [obs0];by_cases hb:b=true
 ·rw [ip0 hb];obtain ⟨n,d2,e2,hd2,hn⟩:=Ej hd (by omega) [2,2,3] (by simp);rw [e2];simp only [obs0];obtain ⟨m,d3,e3,hd3,hm⟩:=Ej hd2 (by omega) [1,1,2,3] (by simp);rw [e3];simp only [obs0];obtain ⟨A,rfl,hA⟩ : ∃A:Nat,n=(A:Int)/\2<=A/\A<=3:=⟨n.toNat,by simp at hn;omega,by simp at hn;omega⟩
  obtain ⟨M,rfl,hM⟩ : ∃M:Nat,m=(M:Int)/\1<=M/\M<=3:=⟨m.toNat,by simp at hm;omega,by simp at hm;omega⟩
  obtain ⟨⟨a,d4⟩,e4,⟨ha1,ha2,ha3⟩,hd4⟩:=Fy (body:=Ed) (λs => ∃j:Nat,s.1=(j:Int)/\j<=M/\s.2.1.Arity=(A:Int)/\s.2.1.Rules.length=M-j/\(∀r∈s.2.1.Rules,Alv r)/\Cur (k+6+30*(M-j)) s.2.2) (λs=>s.1.toNat)
   (λt=>(t.1.Arity=(A:Int)/\t.1.Rules.length=M /\ ∀r∈t.1.Rules,Alv r)/\Cur (k+6+30*M) t.2) (λs hs=>by
   obtain ⟨x4,x3,x1⟩:=s;obtain ⟨j,g1,g2,g3,g4,g5,g6⟩:=hs;simp only at g1 g2 g3 g4 g5 g6;subst g1;unfold Ed;dsimp only;by_cases hj:(j:Int)>0
   ·left;rw [ip0 hj];obtain ⟨r,d5,e5,hd5,_⟩:=B8 g6 (by omega) 2;rw [e5];simp only [obs0];obtain ⟨⟨q,d6⟩,e6,hq,hd6⟩:=Fy (body:=Ee (j:Int) x3) (λs => ∃i:Nat,s.1=(i:Int)/\i<=A/\s.2.1.Left.length=i/\s.2.1.Right.length=1/\Cur (k+6+30*(M-j)+2+2*i) s.2.2) (λs=>A-s.1.toNat)
     (λt=>(t.1.Left.length=A/\t.1.Right.length=1)/\Cur (k+6+30*(M-j)+2+2*A) t.2) (λs hs=>by
     obtain ⟨x6,x5,x9⟩:=s;obtain ⟨i,k1,k2,k3,k4,k5⟩:=hs;simp only at k1 k2 k3 k4 k5;subst k1;unfold Ee;dsimp only;rw [g3];by_cases hi:(i:Int)<(A:Int)
     ·left;rw [ip0 hi];obtain ⟨v,d7,e7,hd7,_⟩:=B8 k5 (by omega) 2;rw [e7];simp only [obs0];rw [Ag (by simp;omega),Ag (by omega)];exact ⟨_,rfl,⟨i+1,rfl,by omega,by simp;omega,k4,hd7.mono (by omega)⟩,by simp only;omega⟩
     ·right;rw [in0 hi];exact ⟨_,rfl,⟨by simp only;omega,k4⟩,k5.mono (by omega)⟩) (s:=((0:Int),({ Left:=Av Int,Right:=[r] }:SRule),d5)) ⟨0,rfl,Nat.zero_le _,rfl,rfl,hd5.mono (by omega)⟩
    rw [e6];simp only [obs0];simp only at hq hd6;obtain ⟨b2,d7,e7,hd7⟩:=Nh hd6 (by omega) 2;rw [e7];simp only [obs0];have fin : ∀(z:SRule) (d9:Sl1Cur),Alv z->Cur (k+6+30*(M-j)+24) d9 -> ∃s':Int×SCondition×Sl1Cur,(ask ((x3.Rules).length+([z]).length<=LIM)<|ask (InI ((j:Int)-1))<|some (Sum.inl (((j:Int)-1,({ Arity:=x3.Arity,Rules:=x3.Rules++[z] }:SCondition),d9):Int×SCondition×Sl1Cur)):Option ((Int×SCondition×Sl1Cur) ⊕ (SCondition×Sl1Cur)))=some (.inl s')/\(∃j:Nat,s'.1=(j:Int)/\j<=M/\s'.2.1.Arity=(A:Int)/\s'.2.1.Rules.length=M-j/\(∀r∈s'.2.1.Rules,Alv r)/\Cur (k+6+30*(M-j)) s'.2.2)/\s'.1.toNat<(j:Int).toNat:=λz d9 hz hd9=>by
     rw [Ag (by simp;omega),Ag (by omega)];refine ⟨_,rfl,⟨j-1,by simp only;omega,by omega,g3,by simp;omega,λf hf=> ?_,hd9.mono (by omega)⟩,by simp only;omega⟩;rcases List.mem_append.1 hf with h' | h'
     ·exact g5 f h'
     ·rw [List.mem_singleton.1 h'];exact hz
    by_cases hb2:b2=true
    ·rw [ip0 hb2];obtain ⟨⟨q2,d8⟩,e8,hq2,hd8⟩:=Fy (body:=Ec (j:Int) x3) (λs => ∃i:Nat,s.1=(i:Int)/\1<=i/\i<=A/\s.2.1.Left.length=A/\s.2.1.Right.length=i/\Cur (k+6+30*(M-j)+10+2*i) s.2.2) (λs=>A-s.1.toNat)
      (λt=>(t.1.Left.length=A/\t.1.Right.length=A)/\Cur (k+6+30*(M-j)+10+2*A) t.2) (λs hs=>by
      obtain ⟨x6,x5,x9⟩:=s;obtain ⟨i,k1,k0,k2,k3,k4,k5⟩:=hs;simp only at k1 k2 k3 k4 k5;subst k1;unfold Ec;dsimp only;rw [g3];by_cases hi:(i:Int)<(A:Int)
      ·left;rw [ip0 hi];obtain ⟨v,d7,e7,hd7,_⟩:=B8 k5 (by omega) 2;rw [e7];simp only [obs0];rw [Ag (by simp;omega),Ag (by omega)];exact ⟨_,rfl,⟨i+1,rfl,by omega,by omega,k3,by simp;omega,hd7.mono (by omega)⟩,by simp only;omega⟩
      ·right;rw [in0 hi];exact ⟨_,rfl,⟨k3,by simp only;omega⟩,k5.mono (by omega)⟩) (s:=((1:Int),q,d7)) ⟨1,rfl,Nat.le_refl _,by omega,hq.1,hq.2,hd7.mono (by omega)⟩
     rw [e8];simp only [obs0];simp only at hq2 hd8;exact fin q2 d8 ⟨by omega,by omega⟩ (hd8.mono (by omega))
    ·rw [in0 hb2];exact fin q d7 ⟨by omega,by omega⟩ (hd7.mono (by omega))
   ·right;rw [in0 hj];exact ⟨_,rfl,⟨g3,by simp only;omega,g5⟩,g6.mono (by omega)⟩) (s:=((M:Int),({ Arity:=(A:Int),Rules:=Av SRule }:SCondition),d3)) ⟨M,rfl,Nat.le_refl _,rfl,by simp [Av],λf hf=>by simp [Av] at hf,hd3.mono (by omega)⟩
  rw [e4];simp only [obs0];simp only at ha1 ha2 ha3 hd4;have h0:0<a.Rules.length:=by omega
  have hf0:=ha3 _ (Ap h0);have ht:Acs a:=⟨by omega,λf hf=>by have:=ha3 f hf;unfold Alv at this;omega⟩
  have hset : ∀ {f:SRule},f.Left.length<=5/\f.Right.length<=5->Acs { Arity:=a.Arity,Rules:=a.Rules.set (Int.toNat 0) f }:=λhf=>⟨by simp;omega,λg hg=>by
   rcases List.mem_or_eq_of_mem_set hg with h' | h'
   ·exact ht.2 g h'
   ·rw [h'];exact hf⟩
  obtain ⟨w,d5,e5,hd5,w0,_⟩:=B8 hd4 (by omega) 12;rw [e5];simp only [obs0];unfold Alv at hf0;by_cases c0:w=0
  ·rw [ip0 c0,ha1,Ag (by omega)];obtain ⟨r,d6,e6,hd6,_⟩:=Ej hd5 (by omega) [1,4,5-(A:Int)] (by simp);rw [e6];exact ⟨_,_,rfl,hd6.mono (by omega),ht⟩
  rw [in0 c0];by_cases c1:w=1
  ·rw [ip0 c1,Ag (by omega)];obtain ⟨r,d6,e6,hd6,_⟩:=Ej hd5 (by omega) [-1,2] (by simp);rw [e6];simp only [obs0,Int.toNat_zero];rw [Ag (by omega)];exact ⟨_,_,rfl,hd6.mono (by omega),hset (by simp only [List.length_set];omega)⟩
  rw [in0 c1];by_cases c2:w=2
  ·rw [ip0 c2,Ag (by omega)];exact ⟨_,_,rfl,hd5.mono (by omega),hset (by simp only [Int.toNat_zero,Av,List.length_nil];omega)⟩
  rw [in0 c2];by_cases c3:w=3
  ·rw [ip0 c3];obtain ⟨⟨a2,d6⟩,e6,ht2,hd6⟩:=Fy (body:=Eb) (λs=>(1<=s.1.Rules.length/\s.1.Rules.length<=7)/\(∀f∈s.1.Rules,Alv f)/\Cur (k+200+2*s.1.Rules.length) s.2) (λs=>7-s.1.Rules.length) (λt=>Acs t.1/\Cur (k+300) t.2) (λs hs=>by
    obtain ⟨x5,x1⟩:=s;obtain ⟨g1,g2,g3⟩:=hs;simp only at g1 g2 g3;unfold Eb;dsimp only;obtain ⟨r,d7,e7,hd7,r0,r1⟩:=B8 g3 (by omega) 2;rw [e7];simp only [obs0];rw [Ag (by omega)];by_cases hl:(x5.Rules.length:Int)<6+r
    ·left;rw [ip0 hl,Ag (by omega),Ag (by simp;omega)];refine ⟨_,rfl,⟨by simp;omega,λf hf=> ?_,hd7.mono (by simp;omega)⟩,by simp;omega⟩;rcases List.mem_append.1 hf with h' | h'
     ·exact g2 f h'
     ·rw [List.mem_singleton.1 h'];exact g2 _ (Ap (by simp only [Int.toNat_zero];omega))
    ·right;rw [in0 hl];exact ⟨_,rfl,⟨by simp only;omega,λf hf=>by have:=g2 f hf;unfold Alv at this;omega⟩,hd7.mono (by omega)⟩) (s:=(a,d5)) ⟨by simp only;omega,ha3,hd5.mono (by omega)⟩
   rw [e6];exact ⟨_,_,rfl,hd6.mono (by omega),ht2⟩
  rw [in0 c3];exact ⟨_,_,rfl,hd5.mono (by omega),ht⟩
 ·rw [in0 hb];refine A0d (A1w hd (by omega) _ (by decide)) λs d2 hd2=> ?_
  obtain ⟨a,e3,ht⟩:=Ayb s;rw [e3];exact ⟨_,_,rfl,hd2.mono (by omega),ht⟩
theorem Va {c:Sl1Cur} {k:Nat} (h:Cur k c) (hk:k<=500000000) : ∃a d,Da c=some (a,d)/\Cur (k+1010) d/\Vl a:=by
 unfold Da;obtain ⟨b,d,e,hd⟩:=Nh h (by omega) 6;rw [e];simp only [obs0];by_cases hb:b=true
 ·rw [ip0 hb];obtain ⟨a,d2,e2,hd2,ha⟩:=Ate hd (by omega);rw [e2];exact ⟨_,_,rfl,hd2.mono (by omega),ha⟩
 ·rw [in0 hb];obtain ⟨r,d2,e2,hd2,_⟩:=Ej hd (by omega) [0,1,2,3,4,5,6,7,8,9,10,12,13,14,15,16] (by simp);rw [e2];simp only [obs0];obtain ⟨a,e3,ht⟩:=Ah6 r;rw [e3];exact ⟨_,_,rfl,hd2.mono (by omega),ht⟩
def Axz (n:Int) (f:SOp) (c:SCondition):Prop:=Ld c/\(1<=n/\n<=4)/\f.Arity=c.Arity/\Aey n.toNat f
theorem Axz.rowR {N:Nat} {f:SOp} {c:SCondition} (h:Axz (N:Int) f c):RowR N f.Table (pats c):=by obtain ⟨h1,h2,h3,_,h5,h6,h7⟩:=h;obtain ⟨p1,p2,_⟩:=h1.pats;have hA:=h1.1;refine ⟨by omega,by omega,p1,λp hp=> ?_,h7⟩;obtain ⟨q1,q2⟩:=p2 p hp;refine ⟨by omega,?_,q2⟩;rw [tna0] at h6;rw [h6];congr 1;omega
theorem Axe {m r:Nat} (hm:m<=150) (hr:r<=3) : ∀i,i<=r->m^i<=3375000:=λi hi=> Nat.le_trans (Nat.pow_le_pow_left hm i) (Nat.le_trans (Nat.pow_le_pow_right (by omega) (show i<=3 by omega)) (by decide))
structure SetC (a:SAlgebra) (c:SCondition) (n:Nat):Prop where
 hg:Aff a
 hn:a.Size=(n:Int)
 n1:1<=n
 n4:n<=4
 hc:Ld c
noncomputable def A7 (n:Nat) (c:SCondition):Nat:=(pats c).length*(n*n)
noncomputable def Ao (n:Nat) (c:SCondition):List (List Int):=(List.range c.Arity.toNat).map λp=>Ato n (Vi n c.Arity.toNat p) (pats c)
section
variable {a:SAlgebra} {c:SCondition} {n:Nat}
theorem SetC.ops (h:SetC a c n) : ∀f∈a.Ops,Aey n f:=by have:=h.hg.2.2.2;rw [h.hn,tna0] at this;exact this
theorem SetC.len (h:SetC a c n):A7 n c<=192:=by have h1:=h.hc.pats.1;have h2:n*n<=16:=Nat.mul_le_mul h.n4 h.n4;exact Nat.le_trans (Nat.mul_le_mul h1 h2) (by decide)
theorem SetC.ar (h:SetC a c n):c.Arity=(c.Arity.toNat:Int)/\2<=c.Arity.toNat/\c.Arity.toNat<=3:=by have:=h.hc.1;omega
theorem SetC.prj (h:SetC a c n) {p:Nat} (hp:p<c.Arity.toNat):RowR n (Vi n c.Arity.toNat p) (pats c):=by
 obtain ⟨e,h1,h2⟩:=h.ar;have hn1:=h.n1;have ht:=A44 (n:=n) (by omega) hp;have hk:Axz (n:Int) { Arity:=c.Arity,Table:=Vi n c.Arity.toNat p } c:=by refine ⟨h.hc,⟨by omega,by have:=h.n4;omega⟩,rfl,?_⟩;rw [tna0];exact ⟨by show 0<=c.Arity;omega,by show c.Arity<=3;omega,ht.1,ht.2⟩
 exact hk.rowR
theorem SetC.first (h:SetC a c n) : ∀t∈Ao n c,C4 n (A7 n c) t:=by intro t ht;obtain ⟨p,hp,rfl⟩:=List.mem_map.1 ht;have hr:=h.prj (List.mem_range.1 hp);exact ⟨A4j _ _ _,hr.row_in⟩
theorem Dn:(Ao n c).length=c.Arity.toNat:=by simp [Ao]
theorem Rt (h:SetC a c n):Cf n c=some (Ao n c):=by
 have hL:=Ba;obtain ⟨e,h1,h2⟩:=h.ar;have hn1:=h.n1;have hn4:=h.n4;unfold Cf;have key:=Bw (body:=Cm n c) (λi=>((i:Int),(Ao n c).take i)) c.Arity.toNat (Ao n c) (λi hi=>by
  have hx:(Ao n c).take (i+1)=(Ao n c).take i++[Ato n (Vi n c.Arity.toNat i) (pats c)]:=by rw [Cp (by rw [Dn];exact hi)];unfold Ao;rw [G5 _ (by simpa using hi),Ys hi]
  unfold Cm;dsimp only;rw [ip0 (by omega)];conv=>lhs;rw [e]
  rw [Auh (by omega) (by omega) (by omega) hi];simp only [obs0];rw [A52 h.hc (h.prj hi)];simp only [obs0];rw [Ag (by simp;omega),Ag (by omega),hx];rfl) (by
  unfold Cm;dsimp only;rw [in0 (by omega),List.take_of_length_le (by rw [Dn];omega)])
 have key':Aq (Cm n c) (0,Av (List Int))=some (Ao n c):=key;rw [key'];rfl
theorem Ag0 (h:SetC a c n):Eu n c=some (Ao n c):=by
 have hL:=Ba;obtain ⟨e,h1,h2⟩:=h.ar;have hn1:=h.n1;have hn4:=h.n4;unfold Eu;rw [R3 h.hc];simp only [obs0];have key:=Bw (body:=Ey n c (pats c)) (λi=>((i:Int),(Ao n c).take i)) c.Arity.toNat (Ao n c) (λi hi=>by
  have hx:(Ao n c).take (i+1)=(Ao n c).take i++[Ato n (Vi n c.Arity.toNat i) (pats c)]:=by rw [Cp (by rw [Dn];exact hi)];unfold Ao;rw [G5 _ (by simpa using hi),Ys hi]
  unfold Ey;dsimp only;rw [ip0 (by omega)];conv=>lhs;rw [e]
  rw [Am0 (by omega) (by omega) (by omega) hi];simp only [obs0];rw [A22 (f:={ Arity:=(c.Arity.toNat:Int),Table:=Vi n c.Arity.toNat i }) (h.prj hi)];simp only [obs0];rw [Ag (by simp;omega),Ag (by omega),hx];rfl) (by
  unfold Ey;dsimp only;rw [in0 (by omega),List.take_of_length_le (by rw [Dn];omega)])
 have key':Aq (Ey n c (pats c)) (0,Av (List Int))=some (Ao n c):=key;rw [key'];rfl
def stI (e:Nat):Int:=if e=0 then 2 else if e=1 then 1 else 3
noncomputable def rsI (a:SAlgebra) (c:SCondition) (s:SrchR) (S:List (ByteArray×Bool)):SrowSearch:={ a:=a,good:=(a,c,pats c),rows:=s.T,steps:=s.S,seen:=S,tried:=(s.m:Int),state:=stI s.e }
theorem Axa (h:SetC a c n) {s:SrchR} {S:List (ByteArray×Bool)} (hS:Yr S s.T) (hT : ∀t∈s.T,C4 n (A7 n c) t) (hl:s.T.length<=150) (hl2:s.S.length=s.T.length) (he:s.e=0) {t:List Int} (ht:C4 n (A7 n c) t) {op:Int} {qs:List Int} (hq:qs.length<=1000) :
  ∃S',Cj (rsI a c s S) t op qs=some (decide ((Gu (Az n · c) s (t,{ Op:=op,Args:=qs })).e=0),rsI a c (Gu (Az n · c) s (t,{ Op:=op,Args:=qs })) S')/\Yr S' (Gu (Az n · c) s (t,{ Op:=op,Args:=qs })).T:=by
 have hL:=Ba;have hlen:=h.len;have hn8:n<=8:=by have:=h.n4;omega
 have hiff:(∃u∈s.T,Aft u=Aft t)↔t∈s.T:=by
  constructor
  ·rintro ⟨u,hu,e⟩
   rwa [<-Av2 (Adq hn8 (hT u hu)) (Adq hn8 ht) e]
  ·exact λh=>⟨t,h,rfl⟩
 have h1:=hS (Aft t);have e0:Cj (rsI a c s S) t op qs=Cj { a:=a,good:=(a,c,pats c),rows:=s.T,steps:=s.S,seen:=S,tried:=(s.m:Int),state:=stI s.e } t op qs:=rfl;rw [e0];unfold Cj Is;rw [Aja (by have:=ht.1;omega)];simp only [obs0];by_cases hm:t∈s.T
 ·have ea:Gu (Az n · c) s (t,{ Op:=op,Args:=qs })=s:=ip0 (.inr hm);have h2:(Gs S (Aft t)).getD false=true:=by rw [h1];exact dtr0 (hiff.2 hm)
  rw [ea,ip0 h2,dtr0 he];exact ⟨S,rfl,hS⟩
 ·have h2:¬(Gs S (Aft t)).getD false=true:=by rw [h1,dfa0 λh1=>hm (hiff.1 h1)];simp
  have hor:¬(s.e≠0\/t∈s.T):=by rintro (h | h);exact h he;exact hm h
  rw [in0 h2];by_cases h150:s.T.length=150
  ·have ea:Gu (Az n · c) s (t,{ Op:=op,Args:=qs })={ s with e:=2 }:=by
    unfold Gu;rw [in0 hor,ip0 h150]
   rw [ip0 (by omega),ea];exact ⟨S,rfl,hS⟩
  ·have ea:Gu (Az n · c) s (t,{ Op:=op,Args:=qs })={ T:=s.T++[t],S:=s.S++[{ Op:=op,Args:=qs }],m:=s.m,e:=if Az n t c then 1 else 0 }:=by
    unfold Gu;rw [in0 hor,in0 h150]
   rw [in0 (by omega),Ag (by simp only [List.length_cons,List.length_nil];omega),A3b (by omega)];simp only [obs0];rw [Ag (by simp only [List.length_cons,List.length_nil];omega),h.hn,Agh h.n1 h.n4 h.hc ht.1];simp only [obs0];rw [ea];by_cases ho:Az n t c
   ·rw [dtr0 ho,ip0 rfl,ip0 ho];exact ⟨Lv S (Aft t) true,rfl,Ajo hS t⟩
   ·rw [dfa0 ho,in0 (by simp),in0 ho,he];exact ⟨Lv S (Aft t) true,rfl,Ajo hS t⟩
end
section
variable {a:SAlgebra} {c:SCondition} {n:Nat}
theorem A8g {s0:SrowSearch} {fr many op x10:Int} {X:SrowSearch} {r:List Int} {xs:List (List Int)} (hl:xs.length=r.length) (hr : ∀x∈r,0<=x/\x<X.rows.length) (h1:r.length<=1000) (b0:Bool) :
  Aq (Cg s0 fr many op x10 X r) (0,b0,xs)=some (b0 || r.any λx=>decide (fr<=x),r.map λx=>nth X.rows x.toNat):=by
 have key:=Bw (body:=Cg s0 fr many op x10 X r) (λi=>((i:Int),b0 || (r.take i).any λx=>decide (fr<=x),(r.map λx=>nth X.rows x.toNat).take i++xs.drop i)) r.length (b0 || r.any λx=>decide (fr<=x),r.map λx=>nth X.rows x.toNat) (λi hi=>by
  have hx:=hr _ (Ap hi);have e:(r.map λx=>nth X.rows x.toNat).take (i+1)=(r.map λx=>nth X.rows x.toNat).take i++[nth X.rows (nth r i).toNat]:=by rw [Cp (by simpa using hi),G5 _ hi]
  have hb:(b0 || (r.take (i+1)).any λx=>decide (fr<=x))=((b0 || (r.take i).any λx=>decide (fr<=x)) || decide (fr<=nth r i)):=by rw [Cp hi,List.any_append,Bool.or_assoc];simp
  unfold Cg;dsimp only;rw [ip0 (by omega),Ag (by omega),tna0,Ag hx,Ag (by simp;omega),hb,e];generalize (b0 || (r.take i).any λx=>decide (fr<=x))=B;have hset:=Awz ((r.map λx=>nth X.rows x.toNat).take i) xs i (by simp;omega) (by omega) (nth X.rows (nth r i).toNat);by_cases h0:B=true
  ·rw [ip0 h0,Ag (by omega),hset,h0];rfl
  ·have h0':B=false:=by simpa using h0
   rw [in0 h0,Ag (by omega),hset,h0'];rfl) (by
  unfold Cg;dsimp only;rw [in0 (by omega),List.take_of_length_le (l:=r.map λx=>nth X.rows x.toNat) (by simp),List.drop_of_length_le (by omega),List.append_nil,List.take_of_length_le (l:=r) (Nat.le_refl _)])
 simpa using key
theorem Apk {ob:List Int->Prop} {P:Nat} {ops:List SOp} {T:List (List Int)} {b:Nat} {s:SrchR} {op i:Nat}:opS n P ops ob T b s op (i+1)=if M0 T.length (nth ops op).Arity.toNat i b then S9 ob (opS n P ops ob T b s op i) (Fi n P (nth ops op) op T T.length i) else opS n P ops ob T b s op i:=by
 unfold opS;rw [Ak9];split
 ·rw [Aox]
 ·rfl
theorem Aoe {ob:List Int->Prop} {P:Nat} {ops:List SOp} {T:List (List Int)} {b:Nat} {s:SrchR} {op i:Nat} (h:(opS n P ops ob T b s op i).e≠0) : ∀j,opS n P ops ob T b s op (i+j)=opS n P ops ob T b s op i
 | 0=>rfl
 | j+1=>by
   rw [<-Nat.add_assoc,Apk,Aoe h j];split
   ·exact Awb h _
   ·rfl
theorem A8b (h:SetC a c n) {first:List (List Int)} {T:List (List Int)} (hT : ∀t∈T,C4 n (A7 n c) t) (hT0:0<T.length) (hT1:T.length<=150) {s0:SrowSearch} (hs0:s0.a=a) {b:Nat} (_hb:b<=150) {s:SrchR} (hs:InvS n (A7 n c) a.Ops first (Az n · c) s) (hp : ∃w,s.T=T++w) {op:Nat} (hop:op<a.Ops.length) :
  ∀(k i:Nat),i+k=T.length^(nth a.Ops op).Arity.toNat -> ∀ {xs:List (List Int)} {S:List (ByteArray×Bool)},xs.length=(nth a.Ops op).Arity.toNat->(opS n (A7 n c) a.Ops (Az n · c) T b s op i).e=0->Yr S (opS n (A7 n c) a.Ops (Az n · c) T b s op i).T ->
  ∃S',Yr S' (opS n (A7 n c) a.Ops (Az n · c) T b s op (T.length^(nth a.Ops op).Arity.toNat)).T /\
    Aq (B5 s0 (b:Int) (T.length:Int) (op:Int)) (xs,(i:Int),rsI a c (opS n (A7 n c) a.Ops (Az n · c) T b s op i) S) =
     some (if (opS n (A7 n c) a.Ops (Az n · c) T b s op (T.length^(nth a.Ops op).Arity.toNat)).e=0 then .inr (rsI a c (opS n (A7 n c) a.Ops (Az n · c) T b s op (T.length^(nth a.Ops op).Arity.toNat)) S') else .inl (rsI a c (opS n (A7 n c) a.Ops (Az n · c) T b s op (T.length^(nth a.Ops op).Arity.toNat)) S')):=by
 have hL:=Ba;have hlen:=h.len;have hn4:=h.n4;have hf:=h.ops _ (Ap hop);obtain ⟨r,hr⟩ : ∃r:Nat,(nth a.Ops op).Arity=(r:Int):=⟨_,(Int.toNat_of_nonneg hf.1).symm⟩
 have hrr:(nth a.Ops op).Arity.toNat=r:=by omega
 have hr3:r<=3:=by have:=hf.2.1;omega
 have hpw:=Axe hT1 hr3;have hpN:=hpw r (Nat.le_refl _);have hpow:Ea ((T.length:Nat):Int) ((r:Nat):Int)=some ((T.length^r:Nat):Int):=Awh 3375000 (by omega) hpw (by omega);intro k
 induction k with
 | zero=>
   intro i hi xs S hxs he hS;have hi':i=T.length^(nth a.Ops op).Arity.toNat:=by omega
   refine ⟨S,by rw [<-hi'];exact hS,?_⟩;rw [<-hi',ip0 he];refine Bp ?_;rw [hrr] at hi';unfold B5;dsimp only;rw [hs0,tna0,hr,hpow];simp only [obs0];rw [in0 (by omega)]
 | succ k ih=>
   intro i hi xs S hxs he hS;have hiN:i<T.length^(nth a.Ops op).Arity.toNat:=by omega
   have hiN':i<T.length^r:=by rw [<-hrr];exact hiN
   have hal:(Ei T.length r i).length=r:=Gl _ _ _;have hin : ∀x∈Ei T.length r i,0<=x/\x<(T.length:Int):=Pj hiN';have hI:InvS n (A7 n c) a.Ops first (Az n · c) (opS n (A7 n c) a.Ops (Az n · c) T b s op i):=InvS.op h.ops hT hop i (by omega) hs hp
   obtain ⟨w,hw⟩:=Ajf (n:=n) (P:=A7 n c) (ops:=a.Ops) (ob:=(Az n · c)) T b s op i;obtain ⟨w0,hw0⟩:=hp;have hTT:(opS n (A7 n c) a.Ops (Az n · c) T b s op i).T=T++(w0++w):=by rw [hw,hw0,List.append_assoc]
   have hsucc:=Apk (n:=n) (P:=A7 n c) (ops:=a.Ops) (ob:=(Az n · c)) (T:=T) (b:=b) (s:=s) (op:=op) (i:=i);rw [hrr] at hsucc;have hlenT:T.length<=(opS n (A7 n c) a.Ops (Az n · c) T b s op i).T.length:=by rw [hTT];simp
   have hsml:=hI.sml;have hSl:=hI.len;have htabs:=hI.tabs;have hmap:((Ei T.length r i).map λx=>nth (rsI a c (opS n (A7 n c) a.Ops (Az n · c) T b s op i) S).rows x.toNat)=(Ei T.length r i).map λx=>nth T x.toNat:=List.map_congr_left λx hx=>by have:=hin x hx;show nth (opS n (A7 n c) a.Ops (Az n · c) T b s op i).T x.toNat=_;rw [hTT];exact Anm (by omega)
   have hcand:(Fi n (A7 n c) (nth a.Ops op) op T T.length i)=(Lc n (A7 n c) (nth a.Ops op) ((Ei T.length r i).map λx=>nth T x.toNat),{ Op:=(op:Int),Args:=Ei T.length r i }):=by unfold Fi;rw [hrr]
   have hcok:=Anr (P:=A7 n c) h.ops hT hop hiN;rw [hcand] at hcok;have hrows0:(nth (opS n (A7 n c) a.Ops (Az n · c) T b s op i).T 0).length=A7 n c:=(htabs _ (Ap (by omega))).1;generalize hg:opS n (A7 n c) a.Ops (Az n · c) T b s op i=s1 at *;have eB : ∀fr:Bool,fr=decide (M0 T.length r i b)->B5 s0 (b:Int) (T.length:Int) (op:Int) (xs,(i:Int),rsI a c s1 S) =
     (if fr=true then if (s1.m:Int)=100000 then some (.inr (.inl (rsI a c { s1 with e:=2 } S))) else
      (Cj (rsI a c { s1 with m:=s1.m+1 } S) (Lc n (A7 n c) (nth a.Ops op) ((Ei T.length r i).map λx=>nth T x.toNat)) (op:Int) (Ei T.length r i)).bind λ(r20,u21)=>if r20=true then some (.inl ((Ei T.length r i).map λx=>nth T x.toNat,((i+1:Nat):Int),u21)) else some (.inr (.inl u21))
      else some (.inl ((Ei T.length r i).map λx=>nth T x.toNat,((i+1:Nat):Int),rsI a c s1 S))):=by
    intro fr hfr;have hfr2:((b:Int)==0 || (Ei T.length r i).any λx=>decide ((b:Int)<=x))=fr:=by
     rw [hfr];unfold M0;rw [Bool.eq_iff_iff];simp only [Bool.or_eq_true,decide_eq_true_eq,beq_iff_eq,List.any_eq_true];constructor
     ·rintro (h | h)
      ·exact .inr (by omega)
      ·exact .inl h
     ·rintro (h | h)
      ·exact .inr h
      ·exact .inl (by omega)
    unfold B5;dsimp only;rw [hs0,tna0,hr,hpow];simp only [obs0];rw [ip0 (by omega),Ak1 hT0 (by omega) (by omega)];simp only [obs0];rw [A8g (X:=rsI a c s1 S) (by rw [hxs,hal,hrr]) (λx hx=>by have:=hin x hx;show 0<=x/\x<(s1.T.length:Int);omega) (by omega),hmap,hfr2];simp only [obs0];by_cases hb1:fr=true
    ·rw [ip0 hb1,ip0 hb1];by_cases hm:(s1.m:Int)=100000
     ·rw [ip0 hm,ip0 (show (rsI a c s1 S).tried=100000 from hm)];rfl
     ·have hm2:InI ((rsI a c s1 S).tried+1):=by
       show InI ((s1.m:Int)+1);have:=hI.cnt;unfold InI;omega
      rw [in0 hm,in0 (show ¬(rsI a c s1 S).tried=100000 from hm),Ag hm2,Ag (show (0:Int)<=0/\(0:Int)<((rsI a c s1 S).rows.length:Int) by show (0:Int)<=0/\(0:Int)<(s1.T.length:Int);omega)];rw [show (rsI a c s1 S).a.Size=(n:Int) from h.hn,show ((nth (rsI a c s1 S).rows (Int.toNat 0)).length:Int)=(A7 n c:Int) from congrArg Int.ofNat hrows0];rw [S7 (by omega) hf (by rw [List.length_map,hal,hrr]) (λt ht=>by obtain ⟨x,hx,rfl⟩:=List.mem_map.1 ht;have:=hin x hx;exact hT _ (Ap (by omega))) (by omega)];simp only [obs0];refine congrArg _ (funext λz=> ?_);obtain ⟨r20,u21⟩:=z;dsimp only;by_cases h20:r20=true
      ·rw [ip0 h20,ip0 h20,Ag (by omega)];rfl
      ·rw [in0 h20,in0 h20]
    ·rw [in0 hb1,in0 hb1,Ag (by omega)];rfl
   have hxl:((Ei T.length r i).map λx=>nth T x.toNat).length=(nth a.Ops op).Arity.toNat:=by rw [List.length_map,hal,hrr]
   have hNe : ∀s2,opS n (A7 n c) a.Ops (Az n · c) T b s op (i+1)=s2->s2.e≠0->opS n (A7 n c) a.Ops (Az n · c) T b s op (T.length^(nth a.Ops op).Arity.toNat)=s2:=λs2 h1 h2=>by have:=Aoe (n:=n) (P:=A7 n c) (ops:=a.Ops) (ob:=(Az n · c)) (T:=T) (b:=b) (s:=s) (op:=op) (i:=i+1) (by rw [h1];exact h2) k;rw [show i+1+k=T.length^(nth a.Ops op).Arity.toNat by omega] at this;rw [this,h1]
   by_cases hfr:M0 T.length r i b
   ·rw [ip0 hfr] at hsucc;have e1:=eB true (dtr0 hfr).symm;rw [ip0 rfl] at e1;by_cases hm:(s1.m:Int)=100000
    ·have e2:S9 (Az n · c) s1 (Fi n (A7 n c) (nth a.Ops op) op T T.length i)={ s1 with e:=2 }:=by
      unfold S9;rw [in0 (by simpa using he),ip0 (by omega)]
     rw [ip0 hm] at e1;rw [e2] at hsucc;have e3:=hNe _ hsucc (by simp);rw [e3];exact ⟨S,hS,by rw [Bp e1];rfl⟩
    ·have e2:S9 (Az n · c) s1 (Fi n (A7 n c) (nth a.Ops op) op T T.length i)=Gu (Az n · c) { s1 with m:=s1.m+1 } (Fi n (A7 n c) (nth a.Ops op) op T T.length i):=by
      unfold S9;rw [in0 (by simpa using he),in0 (by omega)]
     rw [in0 hm] at e1;obtain ⟨S2,f1,f2⟩:=Axa h (s:={ s1 with m:=s1.m+1 }) (S:=S) hS htabs hsml hSl he hcok (op:=(op:Int)) (qs:=Ei T.length r i) (by omega);rw [e2,hcand] at hsucc;rw [f1] at e1;simp only [obs0] at e1;generalize hg2:Gu (Az n · c) { s1 with m:=s1.m+1 } (Lc n (A7 n c) (nth a.Ops op) ((Ei T.length r i).map λx=>nth T x.toNat),{ Op:=(op:Int),Args:=Ei T.length r i })=s2 at e1 f2 hsucc;by_cases h2:s2.e=0
     ·rw [dtr0 h2,ip0 rfl] at e1;rw [C2 e1,<-hsucc];exact ih (i+1) (by omega) hxl (by rw [hsucc];exact h2) (by rw [hsucc];exact f2)
     ·rw [dfa0 h2,in0 (by simp)] at e1;have e3:=hNe _ hsucc h2;rw [e3];exact ⟨S2,f2,by rw [in0 h2];exact Bp e1⟩
   ·rw [in0 hfr] at hsucc;have e1:=eB false (dfa0 hfr).symm;rw [in0 (by simp)] at e1;rw [C2 e1,<-hsucc];exact ih (i+1) (by omega) hxl (by rw [hsucc];exact he) (by rw [hsucc];exact hS)
end
section
variable {a:SAlgebra} {c:SCondition} {n:Nat}
theorem Arx {ob:List Int->Prop} {P:Nat} {ops:List SOp} {T:List (List Int)} {b:Nat} {s:SrchR} {i:Nat} (h:(K8 n P ops ob T b s i).e≠0) : ∀j,K8 n P ops ob T b s (i+j)=K8 n P ops ob T b s i
 | 0=>rfl
 | j+1=>by show opS n P ops ob T b (K8 n P ops ob T b s (i+j)) (i+j) _=_;rw [Arx h j];exact A4y h _ _
theorem Aiw {ob:List Int->Prop} {P:Nat} {ops:List SOp} {T:List (List Int)} {b:Nat} {s:SrchR} {op:Nat}:opS n P ops ob T b s op 0=s:=rfl
theorem A8k (h:SetC a c n) {first:List (List Int)} {s:SrchR} {s0:SrowSearch} (hs0:s0.a=a) (hT0:0<s.T.length) {b:Nat} (hb:b<=150) (hs:InvS n (A7 n c) a.Ops first (Az n · c) s) :
  ∀(k j:Nat),j+k=a.Ops.length -> ∀ {S:List (ByteArray×Bool)},(K8 n (A7 n c) a.Ops (Az n · c) s.T b s j).e=0->Yr S (K8 n (A7 n c) a.Ops (Az n · c) s.T b s j).T ->
  ∃S',Yr S' (Fb n (A7 n c) a.Ops (Az n · c) s b).T /\
    Aq (B6 s0 (b:Int) (s.T.length:Int)) ((j:Int),rsI a c (K8 n (A7 n c) a.Ops (Az n · c) s.T b s j) S) =
     some (if (Fb n (A7 n c) a.Ops (Az n · c) s b).e=0 then .inr (rsI a c (Fb n (A7 n c) a.Ops (Az n · c) s b) S') else .inl (rsI a c (Fb n (A7 n c) a.Ops (Az n · c) s b) S')):=by
 have hL:=Ba;have h4:=h.hg.2.2.1;intro k
 induction k with
 | zero=>
   intro j hj S he hS;have hj':j=a.Ops.length:=by omega
   have er:Fb n (A7 n c) a.Ops (Az n · c) s b=K8 n (A7 n c) a.Ops (Az n · c) s.T b s j:=by rw [hj'];rfl
   rw [er];refine ⟨S,hS,?_⟩;rw [ip0 he];refine Bp ?_;unfold B6;dsimp only;rw [hs0,in0 (by omega)]
 | succ k ih=>
   intro j hj S he hS;have hjN:j<a.Ops.length:=by omega
   have hf:=h.ops _ (Ap hjN);have hI:InvS n (A7 n c) a.Ops first (Az n · c) (K8 n (A7 n c) a.Ops (Az n · c) s.T b s j):=InvS.opss h.ops hs.tabs hs ⟨[],by simp⟩ j (by omega)
   obtain ⟨S2,hS2,e2⟩:=A8b h (T:=s.T) hs.tabs hT0 hs.sml hs0 hb hI (Sq s.T b s j) hjN ((s.T.length)^(nth a.Ops j).Arity.toNat) 0 (by omega) (xs:=List.replicate (nth a.Ops j).Arity.toNat (Av Int)) (S:=S) (by simp) (by rw [Aiw];exact he) (by rw [Aiw];exact hS);rw [Aiw] at e2;have es:opS n (A7 n c) a.Ops (Az n · c) s.T b (K8 n (A7 n c) a.Ops (Az n · c) s.T b s j) j (s.T.length^(nth a.Ops j).Arity.toNat)=K8 n (A7 n c) a.Ops (Az n · c) s.T b s (j+1):=rfl;rw [es] at e2 hS2;have e2':Aq (B5 s0 (b:Int) (s.T.length:Int) (j:Int)) (List.replicate (nth a.Ops j).Arity.toNat (Av Int),0,rsI a c (K8 n (A7 n c) a.Ops (Az n · c) s.T b s j) S)=_:=e2;have step:B6 s0 (b:Int) (s.T.length:Int) ((j:Int),rsI a c (K8 n (A7 n c) a.Ops (Az n · c) s.T b s j) S)=if (K8 n (A7 n c) a.Ops (Az n · c) s.T b s (j+1)).e=0 then some (.inl (((j+1:Nat):Int),rsI a c (K8 n (A7 n c) a.Ops (Az n · c) s.T b s (j+1)) S2)) else some (.inr (.inl (rsI a c (K8 n (A7 n c) a.Ops (Az n · c) s.T b s (j+1)) S2))):=by
    have hf1:=hf.1;have hf2:=hf.2.1;unfold B6;dsimp only;rw [hs0,ip0 (by omega),Ag (by omega),tna0,Ag (by omega),e2'];simp only [obs0];by_cases h0:(K8 n (A7 n c) a.Ops (Az n · c) s.T b s (j+1)).e=0
    ·rw [ip0 h0,ip0 h0];dsimp only;rw [Ag (by omega)];rfl
    ·rw [in0 h0,in0 h0]
   by_cases h0:(K8 n (A7 n c) a.Ops (Az n · c) s.T b s (j+1)).e=0
   ·rw [ip0 h0] at step;rw [C2 step];exact ih (j+1) (by omega) h0 hS2
   ·rw [in0 h0] at step;have e3:Fb n (A7 n c) a.Ops (Az n · c) s b=K8 n (A7 n c) a.Ops (Az n · c) s.T b s (j+1):=by
     have:=Arx h0 k;rw [show j+1+k=a.Ops.length by omega] at this;exact this
    rw [e3];exact ⟨S2,hS2,by rw [in0 h0];exact Bp step⟩
theorem Ay3 (h:SetC a c n) {first:List (List Int)} {s:SrchR} {S:List (ByteArray×Bool)} (hT0:0<s.T.length) {b:Nat} (hb:b<=150) (hs:InvS n (A7 n c) a.Ops first (Az n · c) s) (he:s.e=0) (hS:Yr S s.T) :
  ∃S',Yr S' (Fb n (A7 n c) a.Ops (Az n · c) s b).T/\Fj (rsI a c s S) (b:Int) (s.T.length:Int)=some (decide ((Fb n (A7 n c) a.Ops (Az n · c) s b).e=0),rsI a c (Fb n (A7 n c) a.Ops (Az n · c) s b) S'):=by
 obtain ⟨S',h1,h2⟩:=A8k h (s0:=rsI a c s S) rfl hT0 hb hs a.Ops.length 0 (by omega) (S:=S) he hS;refine ⟨S',h1,?_⟩;unfold Fj;have h2':Aq (B6 (rsI a c s S) (b:Int) (s.T.length:Int)) (0,rsI a c s S)=_:=h2;rw [h2'];simp only [obs0];by_cases h0:(Fb n (A7 n c) a.Ops (Az n · c) s b).e=0
 ·rw [ip0 h0,dtr0 h0]
 ·rw [in0 h0,dfa0 h0]
def Ars:SrchR:={ T:=[],S:=[],m:=0,e:=0 }
noncomputable def N7 (n:Nat) (c:SCondition) (i:Nat):SrchR:=Ac5 (Az n · c) Ars ((Ash (Ao n c)).take i)
theorem Asm (first:List (List Int)):(Ash first).length=first.length:=by simp [Ash]
theorem Ago {i:Nat} (hi:i<(Ao n c).length):N7 n c (i+1)=Gu (Az n · c) (N7 n c i) (nth (Ao n c) i,{ Op:= -1,Args:=[(i:Int)] }):=by unfold N7;rw [Cp (by rw [Asm];exact hi),Axy];congr 1;unfold Ash;rw [G5 _ (by simpa using hi),Ys hi]
theorem Ags:N7 n c (Ao n c).length=N9 (Ao n c) (Az n · c):=by unfold N7 N9;rw [List.take_of_length_le (by rw [Asm];omega)];rfl
theorem Aoy {i:Nat} (h:(N7 n c i).e≠0) : ∀j,i+j<=(Ao n c).length->N7 n c (i+j)=N7 n c i
 | 0,_=>rfl
 | j+1,hj=>by rw [<-Nat.add_assoc,Ago (by omega),Aoy h j (by omega)];exact Az9 h _
theorem Ar5 (h:SetC a c n) : ∀i,i<=(Ao n c).length->InvS n (A7 n c) a.Ops (Ao n c) (Az n · c) (N7 n c i):=by
 intro i hi;refine InvS.adds _ ⟨nofun,rfl,by simp [Ars],λi hi=>by simp [Ars] at hi,λi hi=>by simp [Ars] at hi,λh=>by simp [Ars] at h,.inl rfl,by simp [Ars]⟩ λd hd=> ?_
 obtain ⟨p,hp,rfl⟩:=List.mem_map.1 (List.mem_of_mem_take hd);have hp':=List.mem_range.1 hp;exact ⟨h.first _ (Ap hp'),λT i=> .inl ⟨rfl,p,hp',rfl,rfl⟩⟩
theorem A8j (h:SetC a c n) : ∀(k i:Nat),i+k=(Ao n c).length -> ∀ {S:List (ByteArray×Bool)},(N7 n c i).e=0->Yr S (N7 n c i).T ->
  ∃S',Yr S' (N9 (Ao n c) (Az n · c)).T/\Aq (C5 (Ao n c)) ((i:Int),rsI a c (N7 n c i) S)=some (if (N9 (Ao n c) (Az n · c)).e=0 then .inr (rsI a c (N9 (Ao n c) (Az n · c)) S') else .inl (rsI a c (N9 (Ao n c) (Az n · c)) S')):=by
 have hL:=Ba;obtain ⟨har,h2,h3⟩:=h.ar;have hfl:(Ao n c).length<=3:=by rw [Dn];omega
 intro k
 induction k with
 | zero=>
   intro i hi S he hS;have hi':i=(Ao n c).length:=by omega
   rw [<-Ags,<-hi'];refine ⟨S,hS,?_⟩;rw [ip0 he];refine Bp ?_;unfold C5;dsimp only;rw [in0 (by omega)]
 | succ k ih=>
   intro i hi S he hS;have hiN:i<(Ao n c).length:=by omega
   have hI:=Ar5 h i (by omega);obtain ⟨S2,f1,f2⟩:=Axa h hS hI.tabs hI.sml hI.len he (h.first _ (Ap hiN)) (op:= -1) (qs:=[(i:Int)]) (by simp);rw [<-Ago hiN] at f1 f2;have step:C5 (Ao n c) ((i:Int),rsI a c (N7 n c i) S)=if (N7 n c (i+1)).e=0 then some (.inl (((i+1:Nat):Int),rsI a c (N7 n c (i+1)) S2)) else some (.inr (.inl (rsI a c (N7 n c (i+1)) S2))):=by
    unfold C5;dsimp only;rw [ip0 (by omega),Ag (by omega),tna0,f1];simp only [obs0];by_cases h0:(N7 n c (i+1)).e=0
    ·rw [dtr0 h0,ip0 rfl,ip0 h0,Ag (by omega)];rfl
    ·rw [dfa0 h0,in0 (by simp),in0 h0]
   by_cases h0:(N7 n c (i+1)).e=0
   ·rw [ip0 h0] at step;rw [C2 step];exact ih (i+1) (by omega) h0 f2
   ·rw [in0 h0] at step;have e3:N9 (Ao n c) (Az n · c)=N7 n c (i+1):=by
     have:=Aoy h0 k (by omega);rw [show i+1+k=(Ao n c).length by omega,Ags] at this;exact this
    rw [e3];exact ⟨S2,f2,by rw [in0 h0];exact Bp step⟩
theorem Alp {P:Nat} {ops:List SOp} {ob:List Int->Prop} {s:SrchR} {b:Nat}:s.T.length<=(Fb n P ops ob s b).T.length:=by obtain ⟨w,hw⟩:=Sq (n:=n) (P:=P) (ops:=ops) (ob:=ob) s.T b s ops.length;show _<=(K8 n P ops ob s.T b s ops.length).T.length;rw [hw];simp
theorem A6o (h:SetC a c n) {first:List (List Int)} : ∀(m b:Nat) {s:SrchR} {S:List (ByteArray×Bool)},InvS n (A7 n c) a.Ops first (Az n · c) s->b<=s.T.length->s.e=0->Yr S s.T->150<b+m ->
  ∃S' t,Aq C3 ((b:Int),rsI a c s S)=some t/\(t = .inl (rsI a c (Sj n (A7 n c) a.Ops (Az n · c) m b s) S')\/t = .inr (rsI a c (Sj n (A7 n c) a.Ops (Az n · c) m b s) S'))/\Yr S' (Sj n (A7 n c) a.Ops (Az n · c) m b s).T
 | 0,b,s,S,hs,hb,he,hS,hm=>by have:=hs.sml;omega
 | m+1,b,s,S,hs,hb,he,hS,hm=>by
   have hsm:=hs.sml;unfold Sj;by_cases hc:b<s.T.length
   ·rw [ip0 ⟨hc,he⟩];obtain ⟨S2,g1,g2⟩:=Ay3 h (S:=S) (b:=b) (by omega) (by omega) hs he hS;have hR:=hs.round h.ops b;have hgr:=Alp (n:=n) (P:=A7 n c) (ops:=a.Ops) (ob:=(Az n · c)) (s:=s) (b:=b);have step:C3 ((b:Int),rsI a c s S)=if (Fb n (A7 n c) a.Ops (Az n · c) s b).e=0 then some (.inl ((s.T.length:Int),rsI a c (Fb n (A7 n c) a.Ops (Az n · c) s b) S2)) else some (.inr (.inl (rsI a c (Fb n (A7 n c) a.Ops (Az n · c) s b) S2))):=by
     unfold C3;dsimp only;rw [show (rsI a c s S).rows=s.T from rfl,ip0 (show (b:Int)<(s.T.length:Int) by omega),g2];simp only [obs0];by_cases h0:(Fb n (A7 n c) a.Ops (Az n · c) s b).e=0
     ·rw [dtr0 h0,ip0 rfl,ip0 h0]
     ·rw [dfa0 h0,in0 (by simp),in0 h0]
    by_cases h0:(Fb n (A7 n c) a.Ops (Az n · c) s b).e=0
    ·rw [ip0 h0] at step;rw [C2 step];exact A6o h m s.T.length hR hgr h0 g1 (by omega)
    ·rw [in0 h0] at step;have e3:Sj n (A7 n c) a.Ops (Az n · c) m s.T.length (Fb n (A7 n c) a.Ops (Az n · c) s b)=Fb n (A7 n c) a.Ops (Az n · c) s b:=by
      cases m with
      | zero=>rfl
      | succ m=>unfold Sj;rw [in0 (λhx=>h0 hx.2)]
     rw [e3];exact ⟨S2,_,Bp step,.inl rfl,g1⟩
   ·rw [in0 (λhx=>hc hx.1)];refine ⟨S,.inr (rsI a c s S),Bp ?_,.inr rfl,hS⟩;unfold C3;dsimp only;rw [show (rsI a c s S).rows=s.T from rfl,in0 (show ¬(b:Int)<(s.T.length:Int) by omega)]
noncomputable def Ky (a:SAlgebra) (c:SCondition) (n:Nat):SrchR:=Ai6 n (A7 n c) a.Ops (Ao n c) (Az n · c)
theorem Lo (h:SetC a c n):InvS n (A7 n c) a.Ops (Ao n c) (Az n · c) (Ky a c n):=InvS.find h.ops h.first
theorem Ai0 (h:SetC a c n) : ∃S,Gr a c=some (some (rsI a c (Ky a c n) S)):=by
 unfold Gr K4;rw [Ub h.hc,h.hn];simp only [obs0];rw [Rt h];simp only [obs0];obtain ⟨S1,g1,g2⟩:=A8j h (Ao n c).length 0 (by omega) (S:=[]) rfl Avl;have g2':Aq (C5 (Ao n c)) (0,{ a:=a,good:=(a,c,pats c),rows:=Av (List Int),steps:=Av SCloneStep,seen:=Av (ByteArray×Bool),tried:=(0:Int),state:=(2:Int) })=_:=g2;rw [g2'];simp only [obs0];by_cases h0:(N9 (Ao n c) (Az n · c)).e=0
 ·rw [ip0 h0];dsimp only;have hI:InvS n (A7 n c) a.Ops (Ao n c) (Az n · c) (N9 (Ao n c) (Az n · c)):=InvS.init h.first;obtain ⟨S2,t,f1,f2,f3⟩:=A6o h 200 0 hI (by omega) h0 g1 (by omega);have f1':Aq C3 (0,rsI a c (N9 (Ao n c) (Az n · c)) S1)=some t:=f1;rw [f1'];rcases f2 with rfl | rfl<;>exact ⟨S2,rfl⟩
 ·rw [in0 h0];have e3:Ky a c n=N9 (Ao n c) (Az n · c):=by
   show Sj n (A7 n c) a.Ops (Az n · c) 200 0 (N9 (Ao n c) (Az n · c))=_;unfold Sj;rw [in0 (λhx=>h0 hx.2)]
  rw [e3];exact ⟨S1,rfl⟩
end
structure RepL (R:Sl15Search) (s:SrchR):Prop where
 rows:R.rows=s.T
 steps:R.steps=s.S
 place:R.place=if s.e=1 then (s.T.length:Int)-1 else -1
 op:R.open_=decide (s.e=2)
 tries:s.e=0->R.tries=(s.m:Int)
section
variable {a:SAlgebra} {c:SCondition} {n:Nat}
theorem RepL.going {R:Sl15Search} {s:SrchR} (h:RepL R s) {first:List (List Int)} (hs:InvS n (A7 n c) a.Ops first (Az n · c) s):(s.e=0->¬R.place>=0/\¬R.open_=true)/\(s.e≠0->R.place>=0\/R.open_=true):=by
 have h1:=h.place;have h2:=h.op;refine ⟨λh0=> ?_,λh0=> ?_⟩
 ·rw [h0,in0 (by omega)] at h1;rw [h0] at h2;exact ⟨by omega,by rw [h2];simp⟩
 ·rcases hs.two with h3 | h3 | h3
  ·exact absurd h3 h0
  ·left;have:=(hs.yes h3).1;rw [ip0 h3] at h1;omega
  ·right;rw [h2];exact dtr0 h3
theorem Aip (h:SetC a c n) {R:Sl15Search} {s:SrchR} (hR:RepL R s) {first:List (List Int)} (hs:InvS n (A7 n c) a.Ops first (Az n · c) s) {t:List Int} (ht:C4 n (A7 n c) t) {st:SCloneStep} :
  ∃R',Ir R n c (pats c) t st=some R'/\RepL R' (Gu (Az n · c) s (t,st)):=by
 have hL:=Ba;have hlen:=h.len;have hsml:=hs.sml;have hSl:=hs.len;obtain ⟨g1,g2⟩:=hR.going hs;unfold Ir;by_cases he:s.e=0
 ·obtain ⟨k1,k2⟩:=g1 he;rw [in0 k1,in0 k2,hR.rows];rcases Aw8 (T:=s.T) (t:=t) (by omega) (λu hu=>by have:=(hs.tabs u hu).1;omega) with ⟨hm,e⟩ | ⟨i,hi,e1,_,e⟩
  ·have hor:¬(s.e≠0\/t∈s.T):=by rintro (h | h);exact h he;exact hm h
   rw [e];simp only [obs0];rw [in0 (by omega)];simp only [obs0];by_cases h150:s.T.length=150
   ·have ea:Gu (Az n · c) s (t,st)={ s with e:=2 }:=by
     unfold Gu;rw [in0 hor,ip0 h150]
    rw [ip0 (by omega),ea];refine ⟨_,rfl,rfl,hR.steps,?_,rfl,λhh=>by simp at hh⟩;have:=hR.place;rw [he,in0 (by omega)] at this;rw [this];rfl
   ·have ea:Gu (Az n · c) s (t,st)={ T:=s.T++[t],S:=s.S++[st],m:=s.m,e:=if Az n t c then 1 else 0 }:=by
     unfold Gu;rw [in0 hor,in0 h150]
    rw [in0 (by omega),Ag (by simp only [List.length_cons,List.length_nil];omega),hR.steps,Ag (by simp only [List.length_cons,List.length_nil];omega),Zh h.n1 h.n4 h.hc ht.1];simp only [obs0];rw [ea];by_cases ho:Az n t c
    ·rw [dtr0 ho,ip0 rfl,ip0 ho,Ag (by simp;unfold InI;omega)];refine ⟨_,rfl,rfl,rfl,rfl,?_,λhh=>by simp at hh⟩;have:=hR.op;rw [he] at this;rw [this];rfl
    ·rw [dfa0 ho,in0 (by simp),in0 ho];refine ⟨_,rfl,rfl,rfl,?_,?_,λ_=>hR.tries he⟩
     ·have:=hR.place;rw [he,in0 (by omega)] at this;rw [this];rfl
     ·have:=hR.op;rw [he] at this;rw [this]
  ·have hin:t∈s.T:=by rw [<-e1];exact Ap hi
   have ea:Gu (Az n · c) s (t,st)=s:=ip0 (.inr hin);rw [e,ea];simp only [obs0];rw [ip0 (by omega)];exact ⟨R,rfl,hR⟩
 ·have ea:Gu (Az n · c) s (t,st)=s:=ip0 (.inl he);rw [ea];rcases g2 he with k | k
  ·rw [ip0 k];exact ⟨R,rfl,hR⟩
  ·by_cases k1:R.place>=0
   ·rw [ip0 k1];exact ⟨R,rfl,hR⟩
   ·rw [in0 k1,ip0 k];exact ⟨R,rfl,hR⟩
theorem A8u {a0:SAlgebra} {c0:SCondition} {q1 q2:List (List Int)} {x9 x11 x12:Int} {X5 X:Sl15Search} {r:List Int} (hr : ∀x∈r,0<=x/\x<X.rows.length) (h1:r.length<=1000) :
  Aq (Fm a0 c0 q1 q2 x9 X5 x11 x12 X r) (0,Av (List Int))=some (r.map λx=>nth X.rows x.toNat):=by
 have hL:=Ba;have key:=Bw (body:=Fm a0 c0 q1 q2 x9 X5 x11 x12 X r) (λi=>((i:Int),(r.map λx=>nth X.rows x.toNat).take i)) r.length (r.map λx=>nth X.rows x.toNat) (λi hi=>by
  have hx:=hr _ (Ap hi);have e:(r.map λx=>nth X.rows x.toNat).take (i+1)=(r.map λx=>nth X.rows x.toNat).take i++[nth X.rows (nth r i).toNat]:=by rw [Cp (by simpa using hi),G5 _ hi]
  unfold Fm;dsimp only;rw [ip0 (by omega),Ag (by omega),tna0,Ag hx,Ag (by simp;omega),Ag (by omega),e];rfl) (by
  unfold Fm;dsimp only;rw [in0 (by omega),List.take_of_length_le (by simp)])
 exact key
theorem RepL.open {R:Sl15Search} {s:SrchR} (h:RepL R s) (h0:s.e=0) (k:Int):RepL { rows:=R.rows,steps:=R.steps,place:=R.place,tries:=k,open_:=true } { s with e:=2 }:=by refine ⟨h.rows,h.steps,?_,rfl,λhh=>by simp at hh⟩;have:=h.place;rw [h0,in0 (by omega)] at this;exact this
theorem A8e (h:SetC a c n) {first:List (List Int)} {T:List (List Int)} (hT : ∀t∈T,C4 n (A7 n c) t) (hT0:0<T.length) (hT1:T.length<=150) {X:Sl15Search} (hX:X.rows=T) {b:Nat} (hb:b<=150) {s:SrchR} (hs:InvS n (A7 n c) a.Ops first (Az n · c) s) (hp : ∃w,s.T=T++w) {op:Nat} (hop:op<a.Ops.length) :
  ∀(k i:Nat),i+k=T.length^(nth a.Ops op).Arity.toNat -> ∀ {R:Sl15Search},RepL R (opS n (A7 n c) a.Ops (Az n · c) T b s op i) ->
  ∃R',Aq (Dp a c (pats c) (Ao n c) (b:Int) X (op:Int)) ((i:Int),R)=some R'/\RepL R' (opS n (A7 n c) a.Ops (Az n · c) T b s op (T.length^(nth a.Ops op).Arity.toNat)):=by
 have hL:=Ba;have hlen:=h.len;have hn4:=h.n4;have hf:=h.ops _ (Ap hop);obtain ⟨r,hr⟩ : ∃r:Nat,(nth a.Ops op).Arity=(r:Int):=⟨_,(Int.toNat_of_nonneg hf.1).symm⟩
 have hrr:(nth a.Ops op).Arity.toNat=r:=by omega
 have hr3:r<=3:=by have:=hf.2.1;omega
 have hpw:=Axe hT1 hr3;have hpN:=hpw r (Nat.le_refl _);have hpow:Dq ((T.length:Nat):Int) ((r:Nat):Int)=some ((T.length^r:Nat):Int):=Av3 3375000 (by omega) hpw (by omega);have cop:(0:Int)<=(op:Int)/\(op:Int)<(a.Ops.length:Int):=by omega
 have hfirst0:0<(Ao n c).length:=by obtain ⟨_,h2,_⟩:=h.ar;rw [Dn];omega
 have hrows0:(nth (Ao n c) 0).length=A7 n c:=(h.first _ (Ap hfirst0)).1;intro k
 induction k with
 | zero=>
   intro i hi R hR;have hi':i=T.length^(nth a.Ops op).Arity.toNat:=by omega
   rw [<-hi'];refine ⟨R,Bp ?_,hR⟩;rw [hrr] at hi';unfold Dp;dsimp only;rw [Ag cop,hX,tna0,hr,hpow];simp only [obs0];rw [in0 (by omega)];simp only [obs0]
 | succ k ih=>
   intro i hi R hR;have hiN:i<T.length^(nth a.Ops op).Arity.toNat:=by omega
   have hiN':i<T.length^r:=by rw [<-hrr];exact hiN
   have hal:(Ei T.length r i).length=r:=Gl _ _ _;have hin : ∀x∈Ei T.length r i,0<=x/\x<(T.length:Int):=Pj hiN';have hI:InvS n (A7 n c) a.Ops first (Az n · c) (opS n (A7 n c) a.Ops (Az n · c) T b s op i):=InvS.op h.ops hT hop i (by omega) hs hp
   obtain ⟨w,hw⟩:=Ajf (n:=n) (P:=A7 n c) (ops:=a.Ops) (ob:=(Az n · c)) T b s op i;obtain ⟨w0,hw0⟩:=hp;have hTT:(opS n (A7 n c) a.Ops (Az n · c) T b s op i).T=T++(w0++w):=by rw [hw,hw0,List.append_assoc]
   have hsucc:=Apk (n:=n) (P:=A7 n c) (ops:=a.Ops) (ob:=(Az n · c)) (T:=T) (b:=b) (s:=s) (op:=op) (i:=i);rw [hrr] at hsucc;have hlenT:T.length<=(opS n (A7 n c) a.Ops (Az n · c) T b s op i).T.length:=by rw [hTT];simp
   have hstay:=λhne=>Aoe (n:=n) (P:=A7 n c) (ops:=a.Ops) (ob:=(Az n · c)) (T:=T) (b:=b) (s:=s) (op:=op) (i:=i) hne (k+1)
   rw [show i+(k+1)=T.length^(nth a.Ops op).Arity.toNat by omega] at hstay;have hmap:((Ei T.length r i).map λx=>nth R.rows x.toNat)=(Ei T.length r i).map λx=>nth T x.toNat:=List.map_congr_left λx hx=>by have:=hin x hx;rw [hR.rows,hTT];exact Anm (by omega)
   have hcand:(Fi n (A7 n c) (nth a.Ops op) op T T.length i)=(Lc n (A7 n c) (nth a.Ops op) ((Ei T.length r i).map λx=>nth T x.toNat),{ Op:=(op:Int),Args:=Ei T.length r i }):=by unfold Fi;rw [hrr]
   have hcok:=Anr (P:=A7 n c) h.ops hT hop hiN;rw [hcand] at hcok;obtain ⟨g1,g2⟩:=hR.going hI;have hrl:R.rows.length=(opS n (A7 n c) a.Ops (Az n · c) T b s op i).T.length:=by rw [hR.rows]
   generalize hg:opS n (A7 n c) a.Ops (Az n · c) T b s op i=s1 at *;by_cases he:s1.e=0
   ·obtain ⟨k1,k2⟩:=g1 he;have htr:=hR.tries he;have hcnt:=hI.cnt;have eB:Dp a c (pats c) (Ao n c) (b:Int) X (op:Int) ((i:Int),R) =
      if M0 T.length r i b then (if R.tries+1>100000 then some (.inl (((i+1:Nat):Int),{ rows:=R.rows,steps:=R.steps,place:=R.place,tries:=R.tries+1,open_:=true })) else
       (Ir { rows:=R.rows,steps:=R.steps,place:=R.place,tries:=R.tries+1,open_:=false } n c (pats c) (Lc n (A7 n c) (nth a.Ops op) ((Ei T.length r i).map λx=>nth T x.toNat)) { Op:=(op:Int),Args:=Ei T.length r i }).bind λr35=>some (.inl (((i+1:Nat):Int),r35)))
      else some (.inl (((i+1:Nat):Int),R)):=by
     unfold Dp;dsimp only;rw [Ag cop,hX,tna0,hr,hpow];simp only [obs0];rw [ip0 (by omega),ip0 (by omega),in0 k2];simp only [obs0];rw [Ag cop,Aye hT0 (by omega) (by omega) (by omega)];simp only [obs0];by_cases hfr:M0 T.length r i b
     ·rw [dtr0 hfr,ip0 rfl,ip0 hfr,Ag cop,Adc hT0 (by omega) (by omega)];simp only [obs0];rw [A8u (λx hx=>by have:=hin x hx;omega) (by omega),hmap];simp only [obs0];rw [Ag (by omega)];by_cases h5:R.tries+1>100000
      ·rw [ip0 h5,ip0 h5,Ag (by omega),dtr0 h5];rfl
      ·rw [in0 h5,in0 h5,Ag cop,Ag (by omega),h.hn,show ((nth (Ao n c) (Int.toNat 0)).length:Int)=(A7 n c:Int) from congrArg Int.ofNat hrows0,Y6 (by omega) hf (by rw [List.length_map,hal,hrr]) (λt ht=>by
        obtain ⟨x,hx,rfl⟩:=List.mem_map.1 ht;have:=hin x hx;exact hT _ (Ap (by omega))) (by omega)]
       simp only [obs0];rw [dfa0 h5];refine congrArg _ (funext λz=> ?_);rw [Ag (by omega)];rfl
     ·rw [dfa0 hfr,in0 (by simp),in0 hfr,Ag (by omega)];rfl
    by_cases hfr:M0 T.length r i b
    ·rw [ip0 hfr] at hsucc eB;by_cases hm:s1.m=100000
     ·have e2:S9 (Az n · c) s1 (Fi n (A7 n c) (nth a.Ops op) op T T.length i)={ s1 with e:=2 }:=by
       unfold S9;rw [in0 (by simpa using he),ip0 hm]
      rw [ip0 (by omega)] at eB;rw [e2] at hsucc;rw [C2 eB];exact ih (i+1) (by omega) (by rw [hsucc];exact hR.open he _)
     ·have e2:S9 (Az n · c) s1 (Fi n (A7 n c) (nth a.Ops op) op T T.length i)=Gu (Az n · c) { s1 with m:=s1.m+1 } (Fi n (A7 n c) (nth a.Ops op) op T T.length i):=by
       unfold S9;rw [in0 (by simpa using he),in0 hm]
      rw [in0 (by omega)] at eB;have hR1:RepL { rows:=R.rows,steps:=R.steps,place:=R.place,tries:=R.tries+1,open_:=false } { s1 with m:=s1.m+1 }:=by refine ⟨hR.rows,hR.steps,hR.place,?_,λ_=>by show R.tries+1=((s1.m+1:Nat):Int);omega⟩;show false=decide (s1.e=2);rw [he];rfl
      obtain ⟨R2,f1,f2⟩:=Aip h hR1 (hI.m (k:=s1.m+1) (by omega)) hcok (st:={ Op:=(op:Int),Args:=Ei T.length r i });rw [e2,hcand] at hsucc;rw [f1] at eB;simp only [obs0] at eB;rw [C2 eB];exact ih (i+1) (by omega) (by rw [hsucc];exact f2)
    ·rw [in0 hfr] at hsucc eB;rw [C2 eB];exact ih (i+1) (by omega) (by rw [hsucc];exact hR)
   ·rw [hstay he];refine ⟨R,Bp ?_,hR⟩;unfold Dp;dsimp only;rw [Ag cop,hX,tna0,hr,hpow];simp only [obs0];rw [ip0 (by omega)];rcases g2 he with k3 | k3
    ·rw [in0 (by omega)];simp only [obs0]
    ·by_cases k4:R.place<0
     ·rw [ip0 k4,ip0 k3];simp only [obs0]
     ·rw [in0 k4];simp only [obs0]
theorem A8o (h:SetC a c n) {first:List (List Int)} {s:SrchR} {X:Sl15Search} (hX:X.rows=s.T) (hT0:0<s.T.length) {b:Nat} (hb:b<=150) (hs:InvS n (A7 n c) a.Ops first (Az n · c) s) :
  ∀(k j:Nat),j+k=a.Ops.length -> ∀ {R:Sl15Search},RepL R (K8 n (A7 n c) a.Ops (Az n · c) s.T b s j) ->
  ∃R',Aq (Eo a c (pats c) (Ao n c) (b:Int) X) ((j:Int),R)=some R'/\RepL R' (Fb n (A7 n c) a.Ops (Az n · c) s b):=by
 have h4:=h.hg.2.2.1;intro k
 induction k with
 | zero=>
   intro j hj R hR;have hj':j=a.Ops.length:=by omega
   rw [hj'] at hR;refine ⟨R,Bp ?_,hR⟩;unfold Eo;dsimp only;rw [in0 (by omega)]
 | succ k ih=>
   intro j hj R hR;have hjN:j<a.Ops.length:=by omega
   have hI:InvS n (A7 n c) a.Ops first (Az n · c) (K8 n (A7 n c) a.Ops (Az n · c) s.T b s j):=InvS.opss h.ops hs.tabs hs ⟨[],by simp⟩ j (by omega)
   obtain ⟨R2,e2,hR2⟩:=A8e h (T:=s.T) hs.tabs hT0 hs.sml hX hb hI (Sq s.T b s j) hjN ((s.T.length)^(nth a.Ops j).Arity.toNat) 0 (by omega) (R:=R) (by rw [Aiw];exact hR);have e2':Aq (Dp a c (pats c) (Ao n c) (b:Int) X (j:Int)) (0,R)=some R2:=e2;have step:Eo a c (pats c) (Ao n c) (b:Int) X ((j:Int),R)=some (.inl (((j+1:Nat):Int),R2)):=by unfold Eo;dsimp only;rw [ip0 (by omega),e2'];simp only [obs0];rw [Ag (by omega)];rfl
   rw [C2 step];exact ih (j+1) (by omega) hR2
theorem A6u (h:SetC a c n) {first:List (List Int)} : ∀(m b:Nat) {s:SrchR} {R:Sl15Search},InvS n (A7 n c) a.Ops first (Az n · c) s->b<=s.T.length->RepL R s->150<b+m ->
  ∃R',Aq (En a c (pats c) (Ao n c)) ((b:Int),R)=some R'/\RepL R' (Sj n (A7 n c) a.Ops (Az n · c) m b s)
 | 0,b,s,R,hs,hb,hR,hm=>by have:=hs.sml;omega
 | m+1,b,s,R,hs,hb,hR,hm=>by
   have hsm:=hs.sml;obtain ⟨g1,g2⟩:=hR.going hs;unfold Sj;by_cases hc:b<s.T.length/\s.e=0
   ·obtain ⟨hc1,hc2⟩:=hc;obtain ⟨k1,k2⟩:=g1 hc2;rw [ip0 ⟨hc1,hc2⟩];obtain ⟨R2,e2,hR2⟩:=A8o h (X:=R) hR.rows (by omega) (b:=b) (by omega) hs a.Ops.length 0 (by omega) (R:=R) hR;have e2':Aq (Eo a c (pats c) (Ao n c) (b:Int) R) (0,R)=some R2:=e2;have step:En a c (pats c) (Ao n c) ((b:Int),R)=some (.inl ((s.T.length:Int),R2)):=by
     unfold En;dsimp only;rw [hR.rows,ip0 (by omega),ip0 (by omega),in0 k2];simp only [obs0];rw [e2'];rfl
    rw [C2 step];exact A6u h m s.T.length (hs.round h.ops b) Alp hR2 (by omega)
   ·rw [in0 hc];refine ⟨R,Bp ?_,hR⟩;unfold En;dsimp only;rw [hR.rows];by_cases h1:b<s.T.length
    ·have he:s.e≠0:=λh2=>hc ⟨h1,h2⟩
     rw [ip0 (by omega)];rcases g2 he with k3 | k3
     ·rw [in0 (by omega)];simp only [obs0]
     ·by_cases k4:R.place<0
      ·rw [ip0 k4,ip0 k3];simp only [obs0]
      ·rw [in0 k4];simp only [obs0]
    ·rw [in0 (by omega)];simp only [obs0]
theorem Adp (h:SetC a c n) : ∃R,Et a c=some R/\RepL R (Ky a c n):=by
 have hL:=Ba;obtain ⟨har,h2,h3⟩:=h.ar;have hfl:(Ao n c).length<=3:=by rw [Dn];omega
 unfold Et;rw [R3 h.hc,h.hn];simp only [obs0];rw [Ag0 h];simp only [obs0];have l1 : ∀(k i:Nat),i+k=(Ao n c).length -> ∀ {R:Sl15Search},RepL R (N7 n c i) -> ∃R',Aq (Ep a c (pats c) (Ao n c)) ((i:Int),R)=some R'/\RepL R' (N9 (Ao n c) (Az n · c)):=by
  intro k
  induction k with
  | zero=>
    intro i hi R hR;have hi':i=(Ao n c).length:=by omega
    rw [hi',Ags] at hR;refine ⟨R,Bp ?_,hR⟩;unfold Ep;dsimp only;rw [in0 (by omega)]
  | succ k ih=>
    intro i hi R hR;have hiN:i<(Ao n c).length:=by omega
    obtain ⟨R2,f1,f2⟩:=Aip h hR (Ar5 h i (by omega)) (h.first _ (Ap hiN)) (st:={ Op:= -1,Args:=[(i:Int)] });rw [<-Ago hiN] at f2;have step:Ep a c (pats c) (Ao n c) ((i:Int),R)=some (.inl (((i+1:Nat):Int),R2)):=by unfold Ep;dsimp only;rw [ip0 (by omega),Ag (by omega),tna0,h.hn,f1];simp only [obs0];rw [Ag (by omega)];rfl
    rw [C2 step];exact ih (i+1) (by omega) f2
 obtain ⟨R1,e1,hR1⟩:=l1 (Ao n c).length 0 (by omega) (R:={ rows:=Av (List Int),steps:=Av SCloneStep,place:=(-1:Int),tries:=(0:Int),open_:=false }) ⟨rfl,rfl,rfl,rfl,λ_=>rfl⟩;have e1':Aq (Ep a c (pats c) (Ao n c)) (0,{ rows:=Av (List Int),steps:=Av SCloneStep,place:=(-1:Int),tries:=(0:Int),open_:=false })=some R1:=e1;rw [e1'];simp only [obs0];obtain ⟨R2,e2,hR2⟩:=A6u h 200 0 (InvS.init h.first) (by omega) hR1 (by omega);have e2':Aq (En a c (pats c) (Ao n c)) (0,R1)=some R2:=e2;rw [e2'];exact ⟨R2,rfl,hR2⟩
end
def okS (a:SAlgebra) (c:SCondition):Prop:=Aff a/\a.Size<=4/\Ld c
theorem okS.set {a:SAlgebra} {c:SCondition} (h:okS a c):SetC a c a.Size.toNat:=by obtain ⟨h1,h2,h3⟩:=h;have h4:=h1.1;exact ⟨h1,by omega,by omega,by omega,h3⟩
theorem Jm {a:SAlgebra} {c:SCondition} (ha:V1 a) (hc:Vw c):E0 a c=some (decide (okS a c)):=by
 unfold E0;rw [Avb ha];simp only [obs0];by_cases h1:Aff a
 ·rw [dtr0 h1,ip0 rfl];by_cases h2:a.Size<=4
  ·rw [ip0 h2,Ark hc];simp only [obs0];by_cases h3:Ld c
   ·rw [dtr0 h3,dtr0 (show okS a c from ⟨h1,h2,h3⟩)]
   ·rw [dfa0 h3,dfa0 (λh:okS a c=>h3 h.2.2)]
  ·rw [in0 h2,dfa0 (λh:okS a c=>h2 h.2.1)]
 ·rw [dfa0 h1,in0 (by simp),dfa0 (λh:okS a c=>h1 h.1)]
theorem Kt {a:SAlgebra} {c:SCondition} (ha:V1 a) (hc:Vw c):Er a c=some (decide (okS a c)):=by
 unfold Er;rw [A2f ha];simp only [obs0];by_cases h1:Aff a
 ·rw [dtr0 h1,ip0 rfl];by_cases h2:a.Size<=4
  ·rw [ip0 h2,A0e hc];simp only [obs0];by_cases h3:Ld c
   ·rw [dtr0 h3,dtr0 (show okS a c from ⟨h1,h2,h3⟩)]
   ·rw [dfa0 h3,dfa0 (λh:okS a c=>h3 h.2.2)]
  ·rw [in0 h2,dfa0 (λh:okS a c=>h2 h.2.1)]
 ·rw [dfa0 h1,in0 (by simp),dfa0 (λh:okS a c=>h1 h.1)]
section
variable {a:SAlgebra} {c:SCondition} {n:Nat}
theorem Apl (h:SetC a c n) {s:SrchR} (hs:InvS n (A7 n c) a.Ops (Ao n c) (Az n · c) s) : ∀st∈s.S,st.Args.length<=3:=by
 intro st hst;obtain ⟨i,hi,rfl⟩:=Id.1 hst;rcases hs.steps i (by rw [<-hs.len];exact hi) with ⟨_,p,_,h2,_⟩ | ⟨op,h1,_,h3,_⟩
 ·rw [h2];simp
 ·rw [h3];have:=(h.ops _ (Ap h1)).2.1;omega
noncomputable def K3 (a:SAlgebra) (c:SCondition):List SCloneStep×Int×Bool:=if okS a c then (if (Ky a c a.Size.toNat).e=1 then ((Ky a c a.Size.toNat).S,1,true) else ([],stI (Ky a c a.Size.toNat).e,true)) else ([],0,false)
theorem Aqn (ha:V1 a) (hc:Vw c):Ko a c=some (K3 a c):=by
 have hL:=Ba;unfold Ko K3;rw [Kt ha hc];simp only [obs0];by_cases hk:okS a c
 ·have h:=hk.set;obtain ⟨R,e,hR⟩:=Adp h;have hI:=Lo h;obtain ⟨g1,g2⟩:=hR.going hI;rw [dtr0 hk,ip0 rfl,ip0 hk];have e':Et a c=some R:=by
   have:=e;exact this
  rw [e'];simp only [obs0];rcases hI.two with h0 | h1 | h2
  ·obtain ⟨k1,k2⟩:=g1 h0;rw [in0 k1,in0 k2,h0];rfl
  ·have hp:=hR.place;have:=(hI.yes h1).1;rw [ip0 h1] at hp;rw [ip0 (by omega),hR.steps,Asi (by rw [hI.len];have:=hI.sml;omega) (λst hst=>by have:=Apl h hI st hst;omega),ip0 h1];rfl
  ·have hp:=hR.place;have ho:=hR.op;rw [h2,in0 (by omega)] at hp;rw [h2] at ho;rw [in0 (by omega),ip0 (by rw [ho];rfl),h2];rfl
 ·rw [dfa0 hk,in0 (by simp),in0 hk]
noncomputable def Age (a:SAlgebra) (c:SCondition):List (List Int)×Bool:=if okS a c/\(Ky a c a.Size.toNat).e=0 then ((Ky a c a.Size.toNat).T,true) else ([],false)
theorem Aiq (ha:V1 a) (hc:Vw c):G7 a c=some (Age a c):=by
 unfold G7 Age;rw [Jm ha hc];simp only [obs0];by_cases hk:okS a c
 ·have h:=hk.set;obtain ⟨S,e⟩:=Ai0 h;have hI:=Lo h;rw [dtr0 hk,ip0 rfl,e];simp only [obs0];by_cases h0:(Ky a c a.Size.toNat).e=0
  ·rw [in0 (by show ¬(stI _≠2);rw [h0];simp [stI]),ip0 ⟨hk,h0⟩];rfl
  ·rw [ip0 (by show stI _≠2;unfold stI;rw [in0 h0];split<;>omega),in0 (λhh=>h0 hh.2)]
 ·rw [dfa0 hk,in0 (by simp),in0 (λhh=>hk hh.1)]
theorem Ai4 (ha:V1 a) (hc:Vw c):G6 a c=some (Age a c):=by
 have hL:=Ba;unfold G6 Age;rw [Kt ha hc];simp only [obs0];by_cases hk:okS a c
 ·have h:=hk.set;obtain ⟨R,e,hR⟩:=Adp h;have hI:=Lo h;have hlen:=h.len;have hsml:=hI.sml;obtain ⟨g1,g2⟩:=hR.going hI;rw [dtr0 hk,ip0 rfl,e];simp only [obs0];by_cases h0:(Ky a c a.Size.toNat).e=0
  ·obtain ⟨k1,k2⟩:=g1 h0;rw [in0 k1,in0 k2,ip0 ⟨hk,h0⟩];simp only [obs0];have hrl:R.rows.length<=150:=by rw [hR.rows];exact hsml
   have key:=Bw (body:=Dd R) (λi=>((i:Int),R.rows.take i)) R.rows.length R.rows (λi hi=>by
    have ht:(nth R.rows i).length<=LIM:=by have:=(hI.tabs _ (by rw [<-hR.rows];exact Ap hi)).1;omega
    unfold Dd;dsimp only;rw [ip0 (by omega),Ag (by omega),tna0,Atl ht];simp only [obs0];rw [Ag (by simp;omega),Ag (by omega),Cp hi];rfl) (by
    unfold Dd;dsimp only;rw [in0 (by omega),List.take_length])
   have key':Aq (Dd R) (0,Av (List Int))=some R.rows:=key;rw [key',hR.rows];rfl
  ·rw [in0 (show ¬(okS a c/\(Ky a c a.Size.toNat).e=0) from λhh=>h0 hh.2)];rcases g2 h0 with k | k
   ·rw [ip0 k];rfl
   ·by_cases k1:R.place>=0
    ·rw [ip0 k1];rfl
    ·rw [in0 k1,ip0 k];rfl
 ·rw [dfa0 hk,in0 (by simp),in0 (λhh=>hk hh.1)]
def I3 (ops:List SOp) (nf m:Nat) (st:SCloneStep):Prop:=(st.Op = -1/\st.Args.length=1/\Bz st.Args nf)\/(0<=st.Op/\st.Op<(ops.length:Int)/\(st.Args.length:Int)=(nth ops st.Op.toNat).Arity/\Bz st.Args m)
noncomputable def S0 (n P:Nat) (ops:List SOp) (first T:List (List Int)) (st:SCloneStep):List Int:=if st.Op = -1 then nth first (nth st.Args 0).toNat else Lc n P (nth ops st.Op.toNat) (st.Args.map λx=>nth T x.toNat)
noncomputable def Ac6 (n P:Nat) (ops:List SOp) (first:List (List Int)):List SCloneStep->List (List Int)->Option (List (List Int))
 | [],T=>some T
 | st::l,T=>if I3 ops first.length T.length st then Ac6 n P ops first l (T++[S0 n P ops first T st]) else none
theorem A3d (h:SetC a c n) {T:List (List Int)} (hT : ∀t∈T,C4 n (A7 n c) t) {st:SCloneStep} (hs:I3 a.Ops (Ao n c).length T.length st):C4 n (A7 n c) (S0 n (A7 n c) a.Ops (Ao n c) T st):=by
 unfold S0;rcases hs with ⟨h1,h2,h3⟩ | ⟨h1,h2,h3,h4⟩
 ·rw [ip0 h1];have:=h3 _ (Ap (show 0<st.Args.length by omega));exact h.first _ (Ap (by omega))
 ·rw [in0 (by omega)];refine As3 (h.ops _ (Ap (by omega))) (by rw [List.length_map];omega) λt ht=> ?_
  obtain ⟨x,hx,rfl⟩:=List.mem_map.1 ht;have:=h4 x hx;exact hT _ (Ap (by omega))
theorem A8d {a0:SAlgebra} {first T:List (List Int)} {steps:List SCloneStep} {i:Nat} (hr : ∀x∈(nth steps i).Args,0<=x/\x<(T.length:Int)) (h1:(nth steps i).Args.length<=1000) :
  Aq (Dl a0 first steps (i:Int) T) (0,Av (List Int))=some ((nth steps i).Args.map λx=>nth T x.toNat):=by
 have hL:=Ba;have key:=Bw (body:=Dl a0 first steps (i:Int) T) (λj=>((j:Int),((nth steps i).Args.map λx=>nth T x.toNat).take j)) (nth steps i).Args.length ((nth steps i).Args.map λx=>nth T x.toNat) (λj hj=>by
  have hx:=hr _ (Ap hj);have e:((nth steps i).Args.map λx=>nth T x.toNat).take (j+1)=((nth steps i).Args.map λx=>nth T x.toNat).take j++[nth T (nth (nth steps i).Args j).toNat]:=by rw [Cp (by simpa using hj),G5 _ hj]
  unfold Dl;dsimp only;rw [tna0,ip0 (by omega),Ag (by omega),tna0,Ag hx,Ag (by simp;omega),Ag (by omega),e];rfl) (by
  unfold Dl;dsimp only;rw [tna0,in0 (by omega),List.take_of_length_le (by simp)])
 exact key
theorem A8m {a0:SAlgebra} {first T:List (List Int)} {st:SCloneStep} (hr : ∀x∈st.Args,0<=x/\x<(T.length:Int)) (h1:st.Args.length<=1000) :
  Aq (Fg a0 first T st) (0,Av (List Int))=some (st.Args.map λx=>nth T x.toNat):=by
 have hL:=Ba;have key:=Bw (body:=Fg a0 first T st) (λj=>((j:Int),(st.Args.map λx=>nth T x.toNat).take j)) st.Args.length (st.Args.map λx=>nth T x.toNat) (λj hj=>by
  have hx:=hr _ (Ap hj);have e:(st.Args.map λx=>nth T x.toNat).take (j+1)=(st.Args.map λx=>nth T x.toNat).take j++[nth T (nth st.Args j).toNat]:=by rw [Cp (by simpa using hj),G5 _ hj]
  unfold Fg;dsimp only;rw [ip0 (by omega),Ag (by omega),tna0,Ag hx,Ag (by simp;omega),Ag (by omega),e];rfl) (by
  unfold Fg;dsimp only;rw [in0 (by omega),List.take_of_length_le (by simp)])
 exact key
theorem A1i (h:SetC a c n) {T:List (List Int)} (hT : ∀t∈T,C4 n (A7 n c) t) (hl:T.length<=1000) {st:SCloneStep} (ha:st.Args.length<=1000) :
  Lk a (Ao n c) T st=some (if I3 a.Ops (Ao n c).length T.length st then (S0 n (A7 n c) a.Ops (Ao n c) T st,true) else ([],false),T):=by
 have hL:=Ba;have hlen:=h.len;have hn4:=h.n4;have hO:=h.hg.2.2.1;obtain ⟨har,h2,h3⟩:=h.ar;have hfl:(Ao n c).length<=3:=by rw [Dn];omega
 have hf0:0<(Ao n c).length:=by rw [Dn];omega
 have hrows0:(nth (Ao n c) 0).length=A7 n c:=(h.first _ (Ap hf0)).1;unfold Lk;by_cases h1:st.Op = -1
 ·rw [ip0 h1];by_cases hl1:st.Args.length=1
  ·have h0:(0:Int)<=0/\(0:Int)<(st.Args.length:Int):=by omega
   rw [in0 (by omega),Ag h0,Ag (by omega),Rh];simp only [obs0];have e0:nth st.Args (Int.toNat 0)=nth st.Args 0:=rfl;by_cases hr:0<=nth st.Args 0/\nth st.Args 0<=((Ao n c).length:Int)-1
   ·have hin:Bz st.Args (Ao n c).length:=λx hx=>by
     obtain ⟨j,hj,rfl⟩:=Id.1 hx;have:j=0:=by omega
     subst this;omega
    rw [e0,dtr0 hr,ip0 rfl];simp only [obs0];rw [Ag h0,Ag (by omega),ip0 (show I3 a.Ops (Ao n c).length T.length st from .inl ⟨h1,hl1,hin⟩)];unfold S0;rw [ip0 h1]
   ·rw [e0,dfa0 hr,in0 (by simp)];rw [in0 (show ¬I3 a.Ops (Ao n c).length T.length st from ?_)]
    ·rfl
    ·rintro (⟨_,_,k3⟩ | ⟨k1,_⟩)
     ·have:=k3 _ (Ap (show 0<st.Args.length by omega));exact hr (by omega)
     ·omega
  ·rw [ip0 (by omega),in0 (show ¬I3 a.Ops (Ao n c).length T.length st from ?_)]
   ·rfl
   ·rintro (⟨_,k2,_⟩ | ⟨k1,_⟩)<;>omega
 ·rw [in0 h1,Ag (by omega),Rh];simp only [obs0];by_cases hop:0<=st.Op/\st.Op<=(a.Ops.length:Int)-1
  ·have hopl:st.Op.toNat<a.Ops.length:=by omega
   have hf:=h.ops _ (Ap hopl);rw [dtr0 hop,ip0 rfl,Ag (by omega)];by_cases hA:(st.Args.length:Int)=(nth a.Ops st.Op.toNat).Arity
   ·rw [in0 (by omega),Za T.length st.Args (by omega) (by omega)];simp only [obs0];by_cases hin:Bz st.Args T.length
    ·rw [dtr0 hin,ip0 rfl];simp only [obs0];rw [A8m (λx hx=>hin x hx) ha];simp only [obs0];rw [Ag (by omega),Ag (by omega),h.hn,show ((nth (Ao n c) (Int.toNat 0)).length:Int)=(A7 n c:Int) from congrArg Int.ofNat hrows0,Y6 (by omega) hf (by rw [List.length_map];omega) (λt ht=>by
      obtain ⟨x,hx,rfl⟩:=List.mem_map.1 ht;have:=hin x hx;exact hT _ (Ap (by omega))) (by omega),ip0 (show I3 a.Ops (Ao n c).length T.length st from .inr ⟨hop.1,by omega,hA,hin⟩)]
     unfold S0;rw [in0 h1];rfl
    ·rw [dfa0 hin,in0 (by simp),in0 (show ¬I3 a.Ops (Ao n c).length T.length st from ?_)]
     ·rfl
     ·rintro (⟨k1,_⟩ | ⟨_,_,_,k4⟩)
      ·exact h1 k1
      ·exact hin k4
   ·rw [ip0 (by omega),in0 (show ¬I3 a.Ops (Ao n c).length T.length st from ?_)]
    ·rfl
    ·rintro (⟨k1,_⟩ | ⟨_,_,k3,_⟩)
     ·exact h1 k1
     ·exact hA k3
  ·rw [dfa0 hop,in0 (by simp),in0 (show ¬I3 a.Ops (Ao n c).length T.length st from ?_)]
   ·rfl
   ·rintro (⟨k1,_⟩ | ⟨k1,k2,_⟩)
    ·exact h1 k1
    ·exact hop (by omega)
theorem A8p (h:SetC a c n) {steps:List SCloneStep} {i:Nat} (hi:i<steps.length) (hi2:steps.length<=1000) {T:List (List Int)} (hT : ∀t∈T,C4 n (A7 n c) t) (hl:T.length=i) (ha:(nth steps i).Args.length<=1000) :
  Cq a (Ao n c) steps ((i:Int),T)=some (if I3 a.Ops (Ao n c).length T.length (nth steps i) then .inl (((i+1:Nat):Int),T++[S0 n (A7 n c) a.Ops (Ao n c) T (nth steps i)]) else .inr (.inl ())):=by
 have hL:=Ba;have hlen:=h.len;have hn4:=h.n4;have hO:=h.hg.2.2.1;obtain ⟨har,h2,h3⟩:=h.ar;have hfl:(Ao n c).length<=3:=by rw [Dn];omega
 have hf0:0<(Ao n c).length:=by rw [Dn];omega
 have hrows0:(nth (Ao n c) 0).length=A7 n c:=(h.first _ (Ap hf0)).1;have c1:InI ((i:Int)+1):=by unfold InI;omega
 unfold Cq;dsimp only;rw [ip0 (by omega),Ag (by omega),tna0];generalize hst:nth steps i=st at *;by_cases h1:st.Op = -1
 ·rw [ip0 h1];by_cases hl1:st.Args.length=1
  ·rw [in0 (by omega),Y5 _ _ (by omega)];simp only [obs0];by_cases hin:Bz st.Args (Ao n c).length
   ·have h0:=hin _ (Ap (show 0<st.Args.length by omega));have h0':(0:Int)<=nth st.Args (Int.toNat 0)/\nth st.Args (Int.toNat 0)<((Ao n c).length:Int):=h0;rw [dtr0 hin,ip0 rfl];simp only [obs0];rw [Ag (by omega),Ag h0',Ag (by simp;omega),Ag c1,ip0 (show I3 a.Ops (Ao n c).length T.length st from .inl ⟨h1,hl1,hin⟩)];unfold S0;rw [ip0 h1];rfl
   ·rw [dfa0 hin,in0 (by simp),in0 (show ¬I3 a.Ops (Ao n c).length T.length st from ?_)]
    ·rfl
    ·rintro (⟨_,_,k3⟩ | ⟨k1,_⟩)
     ·exact hin k3
     ·omega
  ·rw [ip0 (by omega),in0 (show ¬I3 a.Ops (Ao n c).length T.length st from ?_)]
   ·rfl
   ·rintro (⟨_,k2,_⟩ | ⟨k1,_⟩)<;>omega
 ·rw [in0 h1];by_cases hop:0<=st.Op/\st.Op<(a.Ops.length:Int)
  ·have hopl:st.Op.toNat<a.Ops.length:=by omega
   have hf:=h.ops _ (Ap hopl);rw [in0 (by omega),in0 (by omega),Ag (by omega)];by_cases hA:(st.Args.length:Int)=(nth a.Ops st.Op.toNat).Arity
   ·rw [in0 (by omega),Y5 _ _ (by omega)];simp only [obs0];by_cases hin:Bz st.Args (i:Int)
    ·have hin2 : ∀x∈st.Args,0<=x/\x<(T.length:Int):=λx hx=>by have:=hin x hx;omega
     have hd:=A8d (a0:=a) (first:=Ao n c) (T:=T) (steps:=steps) (i:=i) (by rw [hst];exact hin2) (by rw [hst];exact ha);rw [hst] at hd;rw [dtr0 hin,ip0 rfl];simp only [obs0];rw [hd];simp only [obs0];rw [Ag (by omega),Ag (by omega),h.hn,show ((nth (Ao n c) (Int.toNat 0)).length:Int)=(A7 n c:Int) from congrArg Int.ofNat hrows0,S7 (by omega) hf (by rw [List.length_map];omega) (λt ht=>by obtain ⟨x,hx,rfl⟩:=List.mem_map.1 ht;have:=hin2 x hx;exact hT _ (Ap (by omega))) (by omega),ip0 (show I3 a.Ops (Ao n c).length T.length st from .inr ⟨hop.1,hop.2,hA,hin2⟩)];simp only [obs0];rw [Ag (by simp;omega),Ag c1];unfold S0;rw [in0 h1];rfl
    ·rw [dfa0 hin,in0 (by simp),in0 (show ¬I3 a.Ops (Ao n c).length T.length st from ?_)]
     ·rfl
     ·rintro (⟨k1,_⟩ | ⟨_,_,_,k4⟩)
      ·exact h1 k1
      ·rw [hl] at k4;exact hin k4
   ·rw [ip0 (by omega),in0 (show ¬I3 a.Ops (Ao n c).length T.length st from ?_)]
    ·rfl
    ·rintro (⟨k1,_⟩ | ⟨_,_,k3,_⟩)
     ·exact h1 k1
     ·exact hA k3
  ·rw [in0 (show ¬I3 a.Ops (Ao n c).length T.length st from ?_)]
   ·by_cases hneg:st.Op<0
    ·rw [ip0 hneg];rfl
    ·rw [in0 hneg,ip0 (by omega)];rfl
   ·rintro (⟨k1,_⟩ | ⟨k1,k2,_⟩)
    ·exact h1 k1
    ·exact hop ⟨k1,k2⟩
theorem Alt (h:SetC a c n) {steps:List SCloneStep} (hs:steps.length<=1000) (ha : ∀st∈steps,st.Args.length<=1000) :
  ∀(rest:List SCloneStep) (i:Nat) (T:List (List Int)),steps.drop i=rest->i+rest.length=steps.length->T.length=i->(∀t∈T,C4 n (A7 n c) t) ->
  Aq (Cq a (Ao n c) steps) ((i:Int),T)=some (match Ac6 n (A7 n c) a.Ops (Ao n c) rest T with | none=> .inl () | some W=> .inr W) /\
  Aq (Dv a c steps (Ao n c)) ((i:Int),T)=some (match Ac6 n (A7 n c) a.Ops (Ao n c) rest T with | none=> .inl () | some W=> .inr W) /\
  ∀W,Ac6 n (A7 n c) a.Ops (Ao n c) rest T=some W->W.length=steps.length /\ ∀t∈W,C4 n (A7 n c) t
 | [],i,T,hd,hi,hl,hT=>by
   simp only [List.length_nil] at hi;refine ⟨Bp ?_,Bp ?_,λW hW=> ?_⟩
   ·unfold Cq;dsimp only;rw [in0 (by omega)];rfl
   ·unfold Dv;dsimp only;rw [in0 (by omega)];rfl
   ·cases hW;exact ⟨by omega,hT⟩
 | st::r,i,T,hd,hi,hl,hT=>by
   have hL:=Ba;simp only [List.length_cons] at hi;have hlt:i<steps.length:=by omega
   have hx:=Ar8 hlt;rw [hd] at hx;obtain ⟨h1,h2⟩:=List.cons.inj hx;have hal:=ha _ (Ap hlt);have e1:=A8p h hlt hs hT hl hal;have e2:Dv a c steps (Ao n c) ((i:Int),T)=some (if I3 a.Ops (Ao n c).length T.length (nth steps i) then .inl (((i+1:Nat):Int),T++[S0 n (A7 n c) a.Ops (Ao n c) T (nth steps i)]) else .inr (.inl ())):=by
    unfold Dv;dsimp only;rw [ip0 (by omega),Ag (by omega),tna0,A1i h hT (by omega) hal];simp only [obs0];by_cases hso:I3 a.Ops (Ao n c).length T.length (nth steps i)
    ·rw [ip0 hso,ip0 hso,ip0 rfl,Ag (by simp;omega),Ag (by omega)];rfl
    ·rw [in0 hso,in0 hso,in0 (by simp)]
   rw [<-h1] at e1 e2;unfold Ac6;by_cases hso:I3 a.Ops (Ao n c).length T.length st
   ·rw [ip0 hso] at e1 e2 ⊢;rw [C2 e1,C2 e2];refine Alt h hs ha r (i+1) _ h2.symm (by omega) (by simp [hl]) λt ht=> ?_
    rcases List.mem_append.1 ht with ht | ht
    ·exact hT t ht
    ·rw [List.mem_singleton.1 ht];exact A3d h hT hso
   ·rw [in0 hso] at e1 e2 ⊢;exact ⟨Bp e1,Bp e2,λW hW=>by cases hW⟩
noncomputable def Agb (a:SAlgebra) (c:SCondition) (steps:List SCloneStep):Bool×Bool:=
 if okS a c then (if 1<=steps.length/\steps.length<=150 then (match Ac6 a.Size.toNat (A7 a.Size.toNat c) a.Ops (Ao a.Size.toNat c) steps [] with | none=>(false,true) | some W=>(decide (Az a.Size.toNat (nth W (W.length-1)) c),true)) else (false,true)) else (false,false)
theorem Afe (ha:V1 a) (hc:Vw c) {steps:List SCloneStep} (hs:steps.length<=1000) (hal : ∀st∈steps,st.Args.length<=1000):Fw a c steps=some (Agb a c steps)/\G1 a c steps=some (Agb a c steps):=by
 by_cases hk:okS a c
 ·have h:=hk.set;have hn:=h.hn;by_cases hl:1<=steps.length/\steps.length<=150
  ·obtain ⟨d1,d2,d3⟩:=Alt h hs hal steps 0 [] (by simp) (by simp) rfl (by simp);have d1':Aq (Cq a (Ao a.Size.toNat c) steps) (0,Av (List Int))=_:=d1;have d2':Aq (Dv a c steps (Ao a.Size.toNat c)) (0,Av (List Int))=_:=d2;have hp:Cf a.Size c=some (Ao a.Size.toNat c):=by
    have:=Rt h
    rwa [<-hn] at this
   have hp2:Eu a.Size c=some (Ao a.Size.toNat c):=by
    have:=Ag0 h
    rwa [<-hn] at this
   unfold Fw G1 J7 Agb;rw [Jm ha hc,Kt ha hc];simp only [obs0];rw [dtr0 hk,ip0 rfl,ip0 rfl,ip0 hk,ip0 hl,in0 (by omega),in0 (by omega),Rh];simp only [obs0];rw [dtr0 (show (1:Int)<=(steps.length:Int)/\(steps.length:Int)<=150 by omega),ip0 rfl,hp,hp2];simp only [obs0];rw [d1',d2'];cases hW:Ac6 a.Size.toNat (A7 a.Size.toNat c) a.Ops (Ao a.Size.toNat c) steps [] with
   | none=>exact ⟨rfl,rfl⟩
   | some W=>
     obtain ⟨w1,w2⟩:=d3 W hW;have wl:=(w2 _ (Ap (show W.length-1<W.length by omega))).1;simp only [obs0];have e1:((W.length:Int)-1).toNat=W.length-1:=by omega
     have r1:Fs a.Size (nth W (W.length-1)) c (pats c)=some (decide (Az a.Size.toNat (nth W (W.length-1)) c)):=by
      have:=Agh h.n1 h.n4 h.hc wl
      rwa [<-hn] at this
     have r2:Fr a.Size (nth W (W.length-1)) c (pats c)=some (decide (Az a.Size.toNat (nth W (W.length-1)) c)):=by
      have:=Zh h.n1 h.n4 h.hc wl
      rwa [<-hn] at this
     have c1:InI ((W.length:Int)-1):=by unfold InI;omega
     have c2:(0:Int)<=(W.length:Int)-1/\(W.length:Int)-1<(W.length:Int):=by omega
     simp only [if_true];rw [Ag c1,Ag c2,Ub h.hc,R3 h.hc];simp only [obs0];rw [e1,r1,r2,Ag c1,Ag c2];exact ⟨rfl,rfl⟩
  ·unfold Fw G1 Agb;rw [Jm ha hc,Kt ha hc];simp only [obs0];rw [dtr0 hk,ip0 rfl,ip0 rfl,ip0 hk,in0 hl,Rh];simp only [obs0];rw [dfa0 (show ¬((1:Int)<=(steps.length:Int)/\(steps.length:Int)<=150) by omega)];refine ⟨?_,rfl⟩;by_cases h1:(steps.length:Int)<1
   ·rw [ip0 h1];rfl
   ·rw [in0 h1,ip0 (by omega)];rfl
 ·unfold Fw G1 Agb;rw [Jm ha hc,Kt ha hc];simp only [obs0];rw [dfa0 hk,in0 hk];exact ⟨rfl,rfl⟩
end
theorem Rp {body:Int->Option (Int ⊕ (Unit ⊕ Unit))} (N:Nat) (p:Nat->Prop) (hgo : ∀i:Nat,i<N->p i->body (i:Int)=some (.inl ((i+1:Nat):Int))) (hbad : ∀i:Nat,i<N->¬p i->body (i:Int)=some (.inr (.inl ()))) (hend:body (N:Int)=some (.inr (.inr ()))) :
  Aq body 0=some (if ∀i,i<N->p i then .inr () else .inl ()):=by
 have key : ∀k i:Nat,i+k=N->Aq body (i:Int)=some (if ∀j,i<=j->j<N->p j then .inr () else .inl ()):=by
  intro k
  induction k with
  | zero=>
    intro i hi;have:i=N:=by omega
    subst this;rw [Bp hend,ip0 (λj h1 h2=>by omega)]
  | succ k ih=>
    intro i hi;by_cases hp:p i
    ·rw [C2 (hgo i (by omega) hp),ih (i+1) (by omega)];by_cases ha : ∀j,i+1<=j->j<N->p j
     ·rw [ip0 ha,ip0 (λj h1 h2=>by
       by_cases e:j=i
       ·rw [e];exact hp
       ·exact ha j (by omega) h2)]
     ·rw [in0 ha,in0 (λhh=>ha λj h1 h2=>hh j (by omega) h2)]
    ·rw [Bp (hbad i (by omega) hp),in0 (λhh=>hp (hh i (Nat.le_refl _) (by omega)))]
 have:=key N 0 (by omega);have this':Aq body 0=_:=this;rw [this'];congr 1;by_cases ha : ∀i,i<N->p i
 ·rw [ip0 ha,ip0 (λj _ h=>ha j h)]
 ·rw [in0 ha,in0 (λhh=>ha λj h=>hh j (Nat.zero_le _) h)]
section
variable {a:SAlgebra} {c:SCondition} {n:Nat} {rows:List (List Int)}
theorem SetC.size (h:SetC a c n):InI (((pats c).length:Int)*a.Size)/\InI (((pats c).length:Int)*a.Size*a.Size)/\((pats c).length:Int)*a.Size*a.Size=(A7 n c:Int):=by have h1:=h.hc.pats.1;have:=Ahz h.n4 (N:=(pats c).length) (by omega);rw [h.hn];exact ⟨this.1,this.2.1,this.2.2.1⟩
theorem A6s (h:SetC a c n) (hl:rows.length<=1000) (hr : ∀r∈rows,r.length<=LIM) : ∀(rest:List (List Int)) (i:Nat) (b:Bool),rows.drop i=rest->i+rest.length=rows.length ->
  Aq (Bu a c rows (pats c)) ((i:Int),b)=some (if ∀r∈rest,C4 n (A7 n c) r then .inr (b || decide (∃r∈rest,Az n r c)) else .inl ())
 | [],i,b,hd,hi=>by simp only [List.length_nil] at hi;refine Bp ?_;unfold Bu;dsimp only;rw [in0 (by omega),ip0 (by simp)];simp
 | r::q,i,b,hd,hi=>by
   simp only [List.length_cons] at hi;have hlt:i<rows.length:=by omega
   have hx:=Ar8 hlt;rw [hd] at hx;obtain ⟨h1,h2⟩:=List.cons.inj hx;obtain ⟨s1,s2,s3⟩:=h.size;have hrl:=hr _ (Ap hlt);rw [<-h1] at hrl;have go:C4 n (A7 n c) r->Bu a c rows (pats c) ((i:Int),b)=some (.inl (((i+1:Nat):Int),b || decide (Az n r c))):=by
    intro ht;have hin:Bz r a.Size:=by rw [h.hn];exact ht.2
    unfold Bu;dsimp only;rw [ip0 (by omega),Ag (by omega),tna0,<-h1,Ag s1,Ag s2,s3,in0 (by have:=ht.1;omega),Y5 _ _ hrl];simp only [obs0];rw [dtr0 hin,ip0 rfl];simp only [obs0];by_cases hb:b=true
    ·rw [ip0 hb,Ag (by omega),hb];rfl
    ·have hb':b=false:=by simpa using hb
     rw [in0 hb,h.hn,Agh h.n1 h.n4 h.hc ht.1];simp only [obs0];rw [Ag (by omega),hb',Bool.false_or];rfl
   have bad:¬C4 n (A7 n c) r->Bu a c rows (pats c) ((i:Int),b)=some (.inr (.inl ())):=by
    intro ht;unfold Bu;dsimp only;rw [ip0 (by omega),Ag (by omega),tna0,<-h1,Ag s1,Ag s2,s3];by_cases hln:r.length=A7 n c
    ·have hin:¬Bz r a.Size:=λhh=>ht ⟨hln,by rw [h.hn] at hh;exact hh⟩
     rw [in0 (by omega),Y5 _ _ hrl];simp only [obs0];rw [dfa0 hin];rfl
    ·rw [ip0 (by omega)];rfl
   by_cases ht:C4 n (A7 n c) r
   ·rw [C2 (go ht),A6s h hl hr q (i+1) _ h2.symm (by omega)];by_cases ha : ∀r∈q,C4 n (A7 n c) r
    ·rw [ip0 ha,ip0 (λx hx=>by
      rcases List.mem_cons.1 hx with rfl | hx
      ·exact ht
      ·exact ha x hx)]
     congr 2;rw [Bool.or_assoc];congr 1;rw [Bool.eq_iff_iff];simp
    ·rw [in0 ha,in0 (λhh=>ha λx hx=>hh x (List.mem_cons_of_mem _ hx))]
   ·rw [Bp (bad ht),in0 (λhh=>ht (hh r (by simp)))]
theorem A6q {a0:SAlgebra} {first:List (List Int)} (hl:rows.length<=1000) (hr : ∀r∈rows,r.length<=1000) : ∃S,Aq (D8 a0 first rows) (0,Av (ByteArray×Bool))=some S/\Yr S rows:=by
 obtain ⟨S,e,hS⟩:=Fy (body:=D8 a0 first rows) (λs => ∃i:Nat,s.1=(i:Int)/\i<=rows.length/\Yr s.2 (rows.take i)) (λs=>rows.length-s.1.toNat) (λS=>Yr S rows) (λs hs=>by
  obtain ⟨x,S⟩:=s;obtain ⟨i,rfl,hi,hS⟩:=hs;dsimp only at hi hS ⊢;unfold D8;dsimp only;by_cases hlt:i<rows.length
  ·left;rw [ip0 (by omega),Ag (by omega),tna0,Aja (by have:=hr _ (Ap hlt);omega)];simp only [obs0];rw [Ag (by omega)];exact ⟨_,rfl,⟨i+1,by dsimp only;omega,by omega,by rw [Cp hlt];exact Ajo hS _⟩,by dsimp only;omega⟩
  ·right;rw [in0 (by omega)];rw [List.take_of_length_le (by omega)] at hS;exact ⟨_,rfl,hS⟩) (s:=((0:Int),Av (ByteArray×Bool))) ⟨0,rfl,by omega,by simpa using Avl⟩
 exact ⟨S,e,hS⟩
theorem Axu {S:List (ByteArray×Bool)} (hn:n<=8) {P:Nat} (hS:Yr S rows) (hr : ∀r∈rows,C4 n P r) {t:List Int} (ht:C4 n P t):(Gs S (Aft t)).getD false=decide (t∈rows):=by
 rw [hS (Aft t)];refine decide_eq_decide.2 ⟨?_,λh=>⟨t,h,rfl⟩⟩;rintro ⟨u,hu,e⟩
 rwa [<-Av2 (Adq hn (hr u hu)) (Adq hn ht) e]
theorem A8f {a0:SAlgebra} {first:List (List Int)} {S:List (ByteArray×Bool)} {x44 x15:Int} {r:List Int} {xs:List (List Int)} (hl:xs.length=r.length) (hr : ∀x∈r,0<=x/\x<rows.length) (h1:r.length<=1000) :
  Aq (De a0 first rows S x44 x15 r) (0,xs)=some (r.map λx=>nth rows x.toNat):=by
 have key:=Bw (body:=De a0 first rows S x44 x15 r) (λi=>((i:Int),(r.map λx=>nth rows x.toNat).take i++xs.drop i)) r.length (r.map λx=>nth rows x.toNat) (λi hi=>by
  have hx:=hr _ (Ap hi);have e:(r.map λx=>nth rows x.toNat).take (i+1)=(r.map λx=>nth rows x.toNat).take i++[nth rows (nth r i).toNat]:=by rw [Cp (by simpa using hi),G5 _ hi]
  unfold De;dsimp only;rw [ip0 (by omega),Ag (by omega),tna0,Ag hx,Ag (by simp;omega),Ag (by omega),Awz _ _ _ (by simp;omega) (by omega),<-e];rfl) (by
  unfold De;dsimp only;rw [in0 (by omega),List.take_of_length_le (by simp),List.drop_of_length_le (by omega),List.append_nil])
 simpa using key
theorem A8n {a0:SAlgebra} {first:List (List Int)} {x13 x14:Int} {r:List Int} (hr : ∀x∈r,0<=x/\x<rows.length) (h1:r.length<=1000) :
  Aq (Db a0 rows first x13 x14 r) (0,Av (List Int))=some (r.map λx=>nth rows x.toNat):=by
 have hL:=Ba;have key:=Bw (body:=Db a0 rows first x13 x14 r) (λi=>((i:Int),(r.map λx=>nth rows x.toNat).take i)) r.length (r.map λx=>nth rows x.toNat) (λi hi=>by
  have hx:=hr _ (Ap hi);have e:(r.map λx=>nth rows x.toNat).take (i+1)=(r.map λx=>nth rows x.toNat).take i++[nth rows (nth r i).toNat]:=by rw [Cp (by simpa using hi),G5 _ hi]
  unfold Db;dsimp only;rw [ip0 (by omega),Ag (by omega),tna0,Ag hx,Ag (by simp;omega),Ag (by omega),e];rfl) (by
  unfold Db;dsimp only;rw [in0 (by omega),List.take_of_length_le (by simp)])
 exact key
def Nj (n P:Nat) (ops:List SOp) (T:List (List Int)) (op:Nat):Prop := ∀i,i<T.length^(nth ops op).Arity.toNat->(Fi n P (nth ops op) op T T.length i).1∈T
theorem Ua (h:SetC a c n) (hr0:0<rows.length) (hl:rows.length<=150) (hr : ∀r∈rows,C4 n (A7 n c) r) {S:List (ByteArray×Bool)} (hS:Yr S rows) {op:Nat} (hop:op<a.Ops.length) :
  Aq (B9 a (Ao n c) rows S (op:Int)) (List.replicate (nth a.Ops op).Arity.toNat (Av Int),0)=some (if Nj n (A7 n c) a.Ops rows op then .inr () else .inl ()) /\
  Aq (Ci a rows (Ao n c) (op:Int)) 0=some (if Nj n (A7 n c) a.Ops rows op then .inr () else .inl ()):=by
 have hL:=Ba;have hlen:=h.len;have hn4:=h.n4;have hf:=h.ops _ (Ap hop);obtain ⟨r,hrA⟩ : ∃r:Nat,(nth a.Ops op).Arity=(r:Int):=⟨_,(Int.toNat_of_nonneg hf.1).symm⟩
 have hrr:(nth a.Ops op).Arity.toNat=r:=by omega
 have hr3:r<=3:=by have:=hf.2.1;omega
 have hpw:=Axe hl hr3;have hpN:=hpw r (Nat.le_refl _);have hpow1:Ea ((rows.length:Nat):Int) ((r:Nat):Int)=some ((rows.length^r:Nat):Int):=Awh 3375000 (by omega) hpw (by omega);have hpow2:Dq ((rows.length:Nat):Int) ((r:Nat):Int)=some ((rows.length^r:Nat):Int):=Av3 3375000 (by omega) hpw (by omega);have hfirst0:0<(Ao n c).length:=by obtain ⟨_,h2,_⟩:=h.ar;rw [Dn];omega
 have hrows0:(nth (Ao n c) 0).length=A7 n c:=(h.first _ (Ap hfirst0)).1;have cop:(0:Int)<=(op:Int)/\(op:Int)<(a.Ops.length:Int):=by omega
 have hcand : ∀i,Fi n (A7 n c) (nth a.Ops op) op rows rows.length i=(Lc n (A7 n c) (nth a.Ops op) ((Ei rows.length r i).map λx=>nth rows x.toNat),{ Op:=(op:Int),Args:=Ei rows.length r i }):=λi=>by unfold Fi;rw [hrr]
 have hcok : ∀i,i<rows.length^r->C4 n (A7 n c) (Fi n (A7 n c) (nth a.Ops op) op rows rows.length i).1:=λi hi=>Anr (P:=A7 n c) h.ops hr hop (by rw [hrr];exact hi)
 have hcmp : ∀i,i<rows.length^r->((Ei rows.length r i).map λx=>nth rows x.toNat).length=(nth a.Ops op).Arity.toNat /\ ∀t∈((Ei rows.length r i).map λx=>nth rows x.toNat),C4 n (A7 n c) t:=λi hi=>by refine ⟨by rw [List.length_map,Gl,hrr],λt ht=> ?_⟩;obtain ⟨x,hx,rfl⟩:=List.mem_map.1 ht;have:=Pj hi x hx;exact hr _ (Ap (by omega))
 constructor
 ·have step : ∀i,i<rows.length^r -> ∀xs:List (List Int),xs.length=r->B9 a (Ao n c) rows S (op:Int) (xs,(i:Int))=some (if (Fi n (A7 n c) (nth a.Ops op) op rows rows.length i).1∈rows then .inl ((Ei rows.length r i).map λx=>nth rows x.toNat,((i+1:Nat):Int)) else .inr (.inl ())):=by
   intro i hi xs hxs;obtain ⟨q1,q2⟩:=hcmp i hi;have hk:=Axu (by omega) hS hr (hcok i hi);rw [hcand] at hk ⊢;have hkl:=(hcok i hi).1;rw [hcand] at hkl;unfold B9;dsimp only;rw [tna0,hrA,hpow1];simp only [obs0];rw [ip0 (by omega),Ak1 hr0 (by omega) (by omega)];simp only [obs0];rw [A8f (by rw [hxs,Gl]) (Pj hi) (by rw [Gl];omega)];simp only [obs0];rw [Ag (by omega),h.hn,show ((nth (Ao n c) (Int.toNat 0)).length:Int)=(A7 n c:Int) from congrArg Int.ofNat hrows0,S7 (by omega) hf q1 q2 (by omega)];simp only [obs0];dsimp only at hk hkl;rw [Aja (by omega)];simp only [obs0];rw [hk];by_cases hm:Lc n (A7 n c) (nth a.Ops op) ((Ei rows.length r i).map λx=>nth rows x.toNat)∈rows
   ·rw [dtr0 hm,ip0 rfl,ip0 hm,Ag (by omega)];rfl
   ·rw [dfa0 hm,in0 (by simp),in0 hm]
  have key : ∀k i:Nat,i+k=rows.length^r -> ∀xs:List (List Int),xs.length=r->Aq (B9 a (Ao n c) rows S (op:Int)) (xs,(i:Int))=some (if ∀j,i<=j->j<rows.length^r->(Fi n (A7 n c) (nth a.Ops op) op rows rows.length j).1∈rows then .inr () else .inl ()):=by
   intro k
   induction k with
   | zero=> intro i hi xs hxs;rw [ip0 (λj h1 h2=>by omega)];refine Bp ?_;unfold B9;dsimp only;rw [tna0,hrA,hpow1];simp only [obs0];rw [in0 (by omega)]
   | succ k ih=>
     intro i hi xs hxs;have st:=step i (by omega) xs hxs;by_cases hm:(Fi n (A7 n c) (nth a.Ops op) op rows rows.length i).1∈rows
     ·rw [ip0 hm] at st;rw [C2 st,ih (i+1) (by omega) _ (by rw [List.length_map,Gl])];by_cases ha : ∀j,i+1<=j->j<rows.length^r->(Fi n (A7 n c) (nth a.Ops op) op rows rows.length j).1∈rows
      ·rw [ip0 ha,ip0 (λj h1 h2=>by
        by_cases e:j=i
        ·rw [e];exact hm
        ·exact ha j (by omega) h2)]
      ·rw [in0 ha,in0 (λhh=>ha λj h1 h2=>hh j (by omega) h2)]
     ·rw [in0 hm] at st;rw [Bp st,in0 (λhh=>hm (hh i (Nat.le_refl _) (by omega)))]
  have k0:=key (rows.length^r) 0 (by omega) (List.replicate (nth a.Ops op).Arity.toNat (Av Int)) (by simp [hrr]);have k0':Aq (B9 a (Ao n c) rows S (op:Int)) (List.replicate (nth a.Ops op).Arity.toNat (Av Int),0)=_:=k0;rw [k0'];unfold Nj;rw [hrr];congr 1;by_cases ha : ∀i,i<rows.length^r->(Fi n (A7 n c) (nth a.Ops op) op rows rows.length i).1∈rows
  ·rw [ip0 ha,ip0 (λj _ h=>ha j h)]
  ·rw [in0 ha,in0 (λhh=>ha λj h=>hh j (Nat.zero_le _) h)]
 ·have hplace : ∀t,C4 n (A7 n c) t -> ∃z,Bx rows t=some z/\(z<0↔t∉rows):=λt ht=>⟨_,Ns (λq hq=>by have:=(hr q hq).1;omega) (by omega),L8⟩
  have common : ∀i,i<rows.length^r->Ci a rows (Ao n c) (op:Int) (i:Int)=some (if (Fi n (A7 n c) (nth a.Ops op) op rows rows.length i).1∈rows then .inl ((i+1:Nat):Int) else .inr (.inl ())):=by
   intro i hi;obtain ⟨q1,q2⟩:=hcmp i hi;obtain ⟨z,z1,z2⟩:=hplace _ (hcok i hi);rw [hcand] at z1 z2 ⊢;unfold Ci;dsimp only at z1 z2 ⊢;rw [Ag cop,tna0,hrA,hpow2];simp only [obs0];rw [ip0 (by omega),Ag cop,Adc hr0 (by omega) (by omega)];simp only [obs0];rw [A8n (Pj hi) (by rw [Gl];omega)];simp only [obs0];rw [Ag cop,Ag (by omega),h.hn,show ((nth (Ao n c) (Int.toNat 0)).length:Int)=(A7 n c:Int) from congrArg Int.ofNat hrows0,Y6 (by omega) hf q1 q2 (by omega)];simp only [obs0];rw [z1];simp only [obs0];by_cases hm:Lc n (A7 n c) (nth a.Ops op) ((Ei rows.length r i).map λx=>nth rows x.toNat)∈rows
   ·rw [in0 (λhz=>z2.1 hz hm),ip0 hm,Ag (by omega)];rfl
   ·rw [ip0 (z2.2 hm),in0 hm]
  have:=Rp (body:=Ci a rows (Ao n c) (op:Int)) (rows.length^r) (λi=>(Fi n (A7 n c) (nth a.Ops op) op rows rows.length i).1∈rows) (λi hi hp=>by rw [common i hi,ip0 hp]) (λi hi hp=>by rw [common i hi,in0 hp]) (by unfold Ci;rw [Ag cop,tna0,hrA,hpow2];simp only [obs0];rw [in0 (by omega)]);rw [this];unfold Nj;rw [hrr];by_cases ha : ∀i,i<rows.length^r->(Fi n (A7 n c) (nth a.Ops op) op rows rows.length i).1∈rows
  ·rw [ip0 ha,ip0 ha]
  ·rw [in0 ha,in0 ha]
def Ahh (a:SAlgebra) (c:SCondition) (n:Nat) (rows:List (List Int)):Prop:=(∀r∈rows,¬Az n r c)/\(∀t∈Ao n c,t∈rows) /\ ∀op,op<a.Ops.length->Nj n (A7 n c) a.Ops rows op
theorem Apr (h:SetC a c n) (hl:rows.length<=150) (hr : ∀r∈rows,C4 n (A7 n c) r):G8 a (Ao n c) rows=some (decide ((∀t∈Ao n c,t∈rows) /\ ∀op,op<a.Ops.length->Nj n (A7 n c) a.Ops rows op)):=by
 have hL:=Ba;have hlen:=h.len;have hn4:=h.n4;have hO:=h.hg.2.2.1;obtain ⟨har,h2,h3⟩:=h.ar;have hfl:(Ao n c).length<=3:=by rw [Dn];omega
 have hf0:0<(Ao n c).length:=by rw [Dn];omega
 unfold G8;obtain ⟨S,e1,hS⟩:=A6q (a0:=a) (first:=Ao n c) (rows:=rows) (by omega) (λr hr'=>by have:=(hr r hr').1;omega);rw [e1];simp only [obs0];have e2:=Rp (body:=C8 a (Ao n c) rows S) (Ao n c).length (λi=>nth (Ao n c) i∈rows) (λi hi hp=>by
  have ht:=h.first _ (Ap hi);unfold C8;rw [ip0 (by omega),Ag (by omega),tna0,Aja (by have:=ht.1;omega)];simp only [obs0];rw [Axu (by omega) hS hr ht,dtr0 hp,ip0 rfl,Ag (by omega)];rfl) (λi hi hp=>by
  have ht:=h.first _ (Ap hi);unfold C8;rw [ip0 (by omega),Ag (by omega),tna0,Aja (by have:=ht.1;omega)];simp only [obs0];rw [Axu (by omega) hS hr ht,dfa0 hp,in0 (by simp)]) (by
  unfold C8;rw [in0 (by omega)])
 rw [e2];simp only [obs0];by_cases hf : ∀i,i<(Ao n c).length->nth (Ao n c) i∈rows
 ·have hr0:0<rows.length:=List.length_pos_of_mem (hf 0 hf0);have hf' : ∀t∈Ao n c,t∈rows:=λt ht=>by
   obtain ⟨i,hi,rfl⟩:=Id.1 ht;exact hf i hi
  have e3:=Rp (body:=Dg a (Ao n c) rows S) a.Ops.length (λop=>Nj n (A7 n c) a.Ops rows op) (λop hop hp=>by
   have hfo:=h.ops _ (Ap hop);have hfo1:=hfo.1;have hfo2:=hfo.2.1;unfold Dg;rw [ip0 (by omega),Ag (by omega),tna0,Ag (by omega),(Ua h hr0 hl hr hS hop).1,ip0 hp];simp only [obs0];rw [Ag (by omega)];rfl) (λop hop hp=>by
   have hfo:=h.ops _ (Ap hop);have hfo1:=hfo.1;have hfo2:=hfo.2.1;unfold Dg;rw [ip0 (by omega),Ag (by omega),tna0,Ag (by omega),(Ua h hr0 hl hr hS hop).1,in0 hp];simp only [obs0]) (by
   unfold Dg;rw [in0 (by omega)])
  rw [ip0 hf];dsimp only;rw [e3];simp only [obs0];by_cases hc : ∀op,op<a.Ops.length->Nj n (A7 n c) a.Ops rows op
  ·rw [ip0 hc,dtr0 ⟨hf',hc⟩]
  ·rw [in0 hc,dfa0 (λhh=>hc hh.2)]
 ·rw [in0 hf,dfa0 (λhh=>hf λi hi=>hh.1 _ (Ap hi))]
noncomputable def Ul (a:SAlgebra) (c:SCondition) (rows:List (List Int)):Bool×Bool:=
 if okS a c/\rows.length<=150 /\ ∀r∈rows,C4 a.Size.toNat (A7 a.Size.toNat c) r then (decide (Ahh a c a.Size.toNat rows),true) else (false,false)
theorem Ap3 (h:SetC a c n) {r:List Int} (hr:r.length<=LIM):Kn a.Size r (pats c)=some (decide (C4 n (A7 n c) r)):=by
 have hL:=Ba;have hn4:=h.n4;obtain ⟨s1,s2,s3⟩:=h.size;unfold Kn;rw [Ag s1,Ag s2,s3];by_cases hln:r.length=A7 n c
 ·rw [ip0 (by omega),h.hn,Za n r hr (by omega)];simp only [obs0];congr 1;exact decide_eq_decide.2 ⟨λhh=>⟨hln,hh⟩,λhh=>hh.2⟩
 ·rw [in0 (by omega),dfa0 (λhh=>hln hh.1)]
theorem Wf (ha:V1 a) (hc:Vw c) (hl:rows.length<=1000) (hr : ∀r∈rows,r.length<=LIM):Dk a c rows=some (Ul a c rows)/\Eg a c rows=some (Ul a c rows):=by
 have hL:=Ba;by_cases hk:okS a c
 ·have h:=hk.set;have hn:=h.hn;have hO:=h.hg.2.2.1;obtain ⟨har,h2,h3⟩:=h.ar;have hfl:(Ao a.Size.toNat c).length<=3:=by rw [Dn];omega
  have hf0:0<(Ao a.Size.toNat c).length:=by rw [Dn];omega
  by_cases hl2:rows.length<=150
  ·have hp:Cf a.Size c=some (Ao a.Size.toNat c):=by
    have:=Rt h
    rwa [<-hn] at this
   have hp2:Eu a.Size c=some (Ao a.Size.toNat c):=by
    have:=Ag0 h
    rwa [<-hn] at this
   have i1:=A6s h hl hr rows 0 false (by simp) (by simp);have i1':Aq (Bu a c rows (pats c)) (0,false)=_:=i1;have s1:=Rp (body:=C9 a c rows (pats c)) rows.length (λi=>C4 a.Size.toNat (A7 a.Size.toNat c) (nth rows i)) (λi hi hp=>by
    unfold C9;rw [ip0 (by omega),Ag (by omega),tna0,Ap3 h (hr _ (Ap hi))];simp only [obs0];rw [dtr0 hp,ip0 rfl,Ag (by omega)];rfl) (λi hi hp=>by
    unfold C9;rw [ip0 (by omega),Ag (by omega),tna0,Ap3 h (hr _ (Ap hi))];simp only [obs0];rw [dfa0 hp,in0 (by simp)]) (by
    unfold C9;rw [in0 (by omega)])
   unfold Dk Eg Ul;rw [Jm ha hc,Kt ha hc];simp only [obs0];rw [dtr0 hk,ip0 rfl,in0 (by omega)];simp only [obs0];rw [Ub h.hc,R3 h.hc];simp only [obs0];rw [i1',s1];simp only [obs0];by_cases ht : ∀r∈rows,C4 a.Size.toNat (A7 a.Size.toNat c) r
   ·rw [ip0 ht,ip0 (λi hi=>ht _ (Ap hi)),ip0 ⟨hk,hl2,ht⟩];dsimp only;rw [hp,hp2];simp only [obs0];rw [Apr h hl2 ht];simp only [obs0,Bool.false_or];have s2:=Rp (body:=C6 a c rows (pats c) (Ao a.Size.toNat c)) (Ao a.Size.toNat c).length (λi=>nth (Ao a.Size.toNat c) i∈rows) (λi hi hp=>by
     unfold C6;rw [ip0 (by omega),Ag (by omega),tna0,Ns (λq hq=>by have:=(ht q hq).1;have:=h.len;omega) (by omega)];simp only [obs0];rw [in0 (λhz=>L8.1 hz hp),Ag (by omega)];rfl) (λi hi hp=>by
     unfold C6;rw [ip0 (by omega),Ag (by omega),tna0,Ns (λq hq=>by have:=(ht q hq).1;have:=h.len;omega) (by omega)];simp only [obs0];rw [ip0 (L8.2 hp)]) (by
     unfold C6;rw [in0 (by omega)])
    have s3:=Rp (body:=Dc a c rows (pats c) (Ao a.Size.toNat c)) rows.length (λi=>¬Az a.Size.toNat (nth rows i) c) (λi hi hp=>by
     have r2:=Zh h.n1 h.n4 h.hc (ht _ (Ap hi)).1;rw [<-hn] at r2;unfold Dc;rw [ip0 (by omega),Ag (by omega),tna0,r2];simp only [obs0];rw [dfa0 hp,in0 (by simp),Ag (by omega)];rfl) (λi hi hp=>by
     have r2:=Zh h.n1 h.n4 h.hc (ht _ (Ap hi)).1;rw [<-hn] at r2;unfold Dc;rw [ip0 (by omega),Ag (by omega),tna0,r2];simp only [obs0];rw [dtr0 (Classical.not_not.1 hp),ip0 rfl]) (by
     unfold Dc;rw [in0 (by omega)])
    rw [s2];simp only [obs0];rw [s3];have ho:(∀i,i<rows.length->¬Az a.Size.toNat (nth rows i) c) ↔ ∀r∈rows,¬Az a.Size.toNat r c:=⟨λhh r hr=>by obtain ⟨i,hi,rfl⟩:=Id.1 hr;exact hh i hi,λhh i hi=>hh _ (Ap hi)⟩
    have hff:(∀i,i<(Ao a.Size.toNat c).length->nth (Ao a.Size.toNat c) i∈rows) ↔ ∀t∈Ao a.Size.toNat c,t∈rows:=⟨λhh r hr=>by obtain ⟨i,hi,rfl⟩:=Id.1 hr;exact hh i hi,λhh i hi=>hh _ (Ap hi)⟩
    refine ⟨?_,?_⟩
    ·by_cases hob : ∃r∈rows,Az a.Size.toNat r c
     ·rw [dtr0 hob,ip0 rfl,dfa0 (λhh:Ahh a c a.Size.toNat rows=>by obtain ⟨r,q1,q2⟩:=hob;exact hh.1 r q1 q2)]
     ·rw [dfa0 hob,in0 (by simp)];congr 2;exact decide_eq_decide.2 ⟨λhh=>(show Ahh a c a.Size.toNat rows from ⟨λr q1 q2=>hob ⟨r,q1,q2⟩,hh⟩),λhh=>hh.2⟩
    ·by_cases hfa : ∀i,i<(Ao a.Size.toNat c).length->nth (Ao a.Size.toNat c) i∈rows
     ·rw [ip0 hfa];dsimp only;have hr0:0<rows.length:=List.length_pos_of_mem (hfa 0 hf0);obtain ⟨S,_,hS⟩:=A6q (a0:=a) (first:=Ao a.Size.toNat c) (rows:=rows) (by omega) (λr hr'=>by have:=(ht r hr').1;have:=h.len;omega);by_cases hoa : ∀i,i<rows.length->¬Az a.Size.toNat (nth rows i) c
      ·rw [ip0 hoa];have s6:=Rp (body:=C7 a rows (Ao a.Size.toNat c)) a.Ops.length (λop=>Nj a.Size.toNat (A7 a.Size.toNat c) a.Ops rows op) (λop hop hp=>by
        unfold C7;rw [ip0 (by omega),(Ua h hr0 hl2 ht hS hop).2,ip0 hp];simp only [obs0];rw [Ag (by omega)];rfl) (λop hop hp=>by
        unfold C7;rw [ip0 (by omega),(Ua h hr0 hl2 ht hS hop).2,in0 hp];simp only [obs0]) (by
        unfold C7;rw [in0 (by omega)])
       rw [s6];by_cases hca : ∀op,op<a.Ops.length->Nj a.Size.toNat (A7 a.Size.toNat c) a.Ops rows op
       ·rw [ip0 hca,dtr0 (show Ahh a c a.Size.toNat rows from ⟨ho.1 hoa,hff.1 hfa,hca⟩)];rfl
       ·rw [in0 hca,dfa0 (λhh:Ahh a c a.Size.toNat rows=>hca hh.2.2)];rfl
      ·rw [in0 hoa,dfa0 (λhh:Ahh a c a.Size.toNat rows=>hoa (ho.2 hh.1))];rfl
     ·rw [in0 hfa,dfa0 (λhh:Ahh a c a.Size.toNat rows=>hfa (hff.2 hh.2.1))]
   ·rw [in0 ht,in0 (λhh=>ht hh.2.2),in0 (λhh=>ht λr hr=>by obtain ⟨i,hi,rfl⟩:=Id.1 hr;exact hh i hi)];exact ⟨rfl,rfl⟩
  ·unfold Dk Eg Ul;rw [Jm ha hc,Kt ha hc];simp only [obs0];rw [dtr0 hk,ip0 rfl,ip0 (by omega),in0 (λhh=>hl2 hh.2.1)];exact ⟨rfl,rfl⟩
 ·unfold Dk Eg Ul;rw [Jm ha hc,Kt ha hc];simp only [obs0];rw [dfa0 hk,in0 (show ¬(okS a c/\_) from λhh=>hk hh.1)];exact ⟨rfl,rfl⟩
end
section
variable {a:SAlgebra} {c:SCondition} {n P:Nat} {ops:List SOp} {first:List (List Int)} {ob:List Int->Prop}
theorem Xn (ha:V1 a) (hc:Vw c):Gx a c=some (K3 a c):=by
 unfold Gx K3;rw [Jm ha hc];simp only [obs0];by_cases hk:okS a c
 ·have h:=hk.set;obtain ⟨S,e⟩:=Ai0 h;rw [dtr0 hk,ip0 rfl,ip0 hk,e];simp only [obs0];by_cases h1:(Ky a c a.Size.toNat).e=1
  ·rw [in0 (by show ¬(stI _≠1);rw [h1];simp [stI]),ip0 h1];rfl
  ·rw [ip0 (by show stI _≠1;unfold stI;rw [in0 h1];split<;>omega),in0 h1];rfl
 ·rw [dfa0 hk,in0 (by simp),in0 hk]
theorem Arp (st:SCloneStep) : ∀(l:List SCloneStep) (T:List (List Int)),Ac6 n P ops first (l++[st]) T=(Ac6 n P ops first l T).bind λW=>if I3 ops first.length W.length st then some (W++[S0 n P ops first W st]) else none
 | [],T=>rfl
 | s::l,T=>by
   show (if I3 ops first.length T.length s then Ac6 n P ops first (l++[st]) (T++[S0 n P ops first T s]) else none)=(if I3 ops first.length T.length s then Ac6 n P ops first l (T++[S0 n P ops first T s]) else none).bind _;by_cases h:I3 ops first.length T.length s
   ·rw [ip0 h,ip0 h,Arp st l]
   ·rw [in0 h,in0 h];rfl
theorem A1g {α:Type} [Inhabited α] {T:List α} {i j:Nat} (hj:j<i) (hi:i<=T.length):nth (T.take i) j=nth T j:=by rw [Jr (by simp;omega),Jr (by omega),List.getElem_take]
theorem Ayg {T:List (List Int)} {i:Nat} (hi:i<=T.length) (hops : ∀f∈ops,0<=f.Arity) {s:SCloneStep} {t:List Int} (h:Ae9 P n ops first T i s t):I3 ops first.length i s/\S0 n P ops first (T.take i) s=t:=by
 rcases h with ⟨h1,p,h2,h3,h4⟩ | ⟨op,h1,h2,h3,h4,h5⟩
 ·refine ⟨.inl ⟨h1,by rw [h3];rfl,λx hx=> ?_⟩,?_⟩
  ·rw [h3,List.mem_singleton] at hx;subst hx;omega
  ·unfold S0;rw [ip0 h1,h3,h4];rfl
 ·have ho:=hops _ (Ap h1);have e:s.Op.toNat=op:=by omega
  refine ⟨.inr ⟨by omega,by omega,by rw [e];omega,h4⟩,?_⟩;unfold S0;rw [in0 (by omega),h5,e];congr 1;refine List.map_congr_left λx hx=> ?_
  have:=h4 x hx;exact A1g (by omega) hi
theorem Ap7 (hops : ∀f∈ops,0<=f.Arity) {s:SrchR} (hs:InvS n P ops first ob s) : ∀i,i<=s.T.length->Ac6 n P ops first (s.S.take i) []=some (s.T.take i)
 | 0,_=>rfl
 | i+1,hi=>by have hl:=hs.len;obtain ⟨q1,q2⟩:=Ayg (by omega) hops (hs.steps i (by omega));rw [Cp (xs:=s.S) (by omega),Arp,Ap7 hops hs i (by omega)];simp only [obs0];rw [List.length_take,show min i s.T.length=i by omega,ip0 q1,q2,Cp (xs:=s.T) (by omega)]
def At7 (n P:Nat) (ops:List SOp) (Z:List (List Int)):Prop := ∀op,op<ops.length -> ∀us:List (List Int),us.length=(nth ops op).Arity.toNat->(∀u∈us,u∈Z)->Lc n P (nth ops op) us∈Z
theorem places {Z:List (List Int)} : ∀ {us:List (List Int)},(∀u∈us,u∈Z) -> ∃xs:List Int,xs.length=us.length/\Bz xs Z.length/\(xs.map λx=>nth Z x.toNat)=us
 | [],_=>⟨[],rfl,(λx hx=>absurd hx (by simp)),rfl⟩
 | u::us,h=>by
   obtain ⟨xs,h1,h2,h3⟩:=places (us:=us) (λv hv=>h v (by simp [hv]));obtain ⟨i,hi,e⟩:=Id.1 (h u (by simp));refine ⟨(i:Int)::xs,by simp [h1],λx hx=> ?_,?_⟩
   ·rcases List.mem_cons.1 hx with rfl | hx
    ·omega
    ·exact h2 x hx
   ·simp only [List.map_cons,tna0];rw [e,h3]
theorem Asd {Z:List (List Int)} (h : ∀op,op<ops.length->Nj n P ops Z op) (hz:0<Z.length):At7 n P ops Z:=by
 intro op hop us hl hu;obtain ⟨xs,h1,h2,h3⟩:=places hu;obtain ⟨k,hk1,hk2⟩:=Zp xs.length xs rfl h2;rw [h1,hl] at hk2;have harg:Ei Z.length (nth ops op).Arity.toNat k=xs:=by
  have:=Arn hz _ xs (h1.trans hl) h2
  rwa [hk1,tna0] at this
 have:=h op hop k hk2;unfold Fi at this;rw [harg,h3] at this;exact this
theorem Azs {Z:List (List Int)} (hf : ∀t∈first,t∈Z) (hz:At7 n P ops Z) : ∀ {l:List SCloneStep} {T W:List (List Int)},(∀t∈T,t∈Z)->Ac6 n P ops first l T=some W -> ∀t∈W,t∈Z
 | [],T,W,hT,h=>by cases h;exact hT
 | s::l,T,W,hT,h=>by
   unfold Ac6 at h;by_cases hs:I3 ops first.length T.length s
   ·rw [ip0 hs] at h;refine Azs hf hz (λt ht=> ?_) h;rcases List.mem_append.1 ht with ht | ht
    ·exact hT t ht
    ·rw [List.mem_singleton.1 ht];unfold S0;rcases hs with ⟨h1,h2,h3⟩ | ⟨h1,h2,h3,h4⟩
     ·rw [ip0 h1];have:=h3 _ (Ap (show 0<s.Args.length by omega));exact hf _ (Ap (by omega))
     ·rw [in0 (by omega)];refine hz _ (by omega) _ (by rw [List.length_map];omega) λu hu=> ?_
      obtain ⟨x,hx,rfl⟩:=List.mem_map.1 hu;have:=h4 x hx;exact hT _ (Ap (by omega))
   ·rw [in0 hs] at h;cases h
theorem A13 {Z:List (List Int)} (hf : ∀t∈first,t∈Z) (hz:At7 n P ops Z) {s:SrchR} (hs:InvS n P ops first ob s) : ∀m i,i<=m->i<s.T.length->nth s.T i∈Z:=by
 intro m
 induction m with
 | zero=>
   intro i hm hi;have:i=0:=by omega
   subst this;rcases hs.steps 0 hi with ⟨_,p,h2,_,h4⟩ | ⟨op,h1,_,h3,h4,h5⟩
   ·rw [h4];exact hf _ (Ap h2)
   ·rw [h5];refine hz op h1 _ (by rw [List.length_map,h3]) λu hu=> ?_
    obtain ⟨x,hx,rfl⟩:=List.mem_map.1 hu;have:=h4 x hx;omega
 | succ m ih=>
   intro i hm hi;rcases hs.steps i hi with ⟨_,p,h2,_,h4⟩ | ⟨op,h1,_,h3,h4,h5⟩
   ·rw [h4];exact hf _ (Ap h2)
   ·rw [h5];refine hz op h1 _ (by rw [List.length_map,h3]) λu hu=> ?_
    obtain ⟨x,hx,rfl⟩:=List.mem_map.1 hu;have:=h4 x hx;exact ih x.toNat (by omega) (by omega)
end
section
variable {a:SAlgebra} {c:SCondition}
theorem SetC.ar0 {n:Nat} (h:SetC a c n) : ∀f∈a.Ops,0<=f.Arity:=λf hf=>(h.ops f hf).1
theorem okS.find (h:okS a c):K3 a c=if (Ky a c a.Size.toNat).e=1 then ((Ky a c a.Size.toNat).S,1,true) else ([],stI (Ky a c a.Size.toNat).e,true):=ip0 h
theorem A0n (h:(K3 a c).2.2=true) (h1:(K3 a c).2.1=1):Agb a c (K3 a c).1=(true,true):=by
 by_cases hk:okS a c
 ·have hS:=hk.set;have hI:=Lo hS;rw [hk.find] at h1 ⊢;by_cases he:(Ky a c a.Size.toNat).e=1
  ·obtain ⟨y1,y2⟩:=hI.yes he;have hd:=Ap7 hS.ar0 hI (Ky a c a.Size.toNat).T.length (Nat.le_refl _);rw [List.take_length,<-hI.len,List.take_length] at hd;have hsm:=hI.sml;have hlen:=hI.len;rw [ip0 he];unfold Agb;dsimp only;rw [ip0 hk,ip0 (by omega),hd];dsimp only;rw [dtr0 y2]
  ·rw [in0 he] at h1;exfalso;simp only at h1;unfold stI at h1;rw [in0 he] at h1;split at h1<;>omega
 ·unfold K3 at h;rw [in0 hk] at h;cases h
theorem Alc (hk:okS a c) (he:(Ky a c a.Size.toNat).e=0):(∀t∈Ao a.Size.toNat c,t∈(Ky a c a.Size.toNat).T)/\(∀op,op<a.Ops.length->Nj a.Size.toNat (A7 a.Size.toNat c) a.Ops (Ky a c a.Size.toNat).T op)/\0<(Ky a c a.Size.toNat).T.length /\ ∀t∈(Ky a c a.Size.toNat).T,¬Az a.Size.toNat t c:=by
 have hS:=hk.set;have hI:=Lo hS;obtain ⟨har,h2,h3⟩:=hS.ar;have hf0:0<(Ao a.Size.toNat c).length:=by rw [Dn];omega
 obtain ⟨q1,q2⟩:=Avx hS.ops hS.first hf0 he;refine ⟨q1,λop hop i hi=> ?_,List.length_pos_of_mem (q1 _ (Ap hf0)),λt ht=> ?_⟩
 ·exact q2 op hop _ (Gl _ _ _) (Pj hi)
 ·obtain ⟨i,hi,rfl⟩:=Id.1 ht;exact hI.no i hi (.inl (by omega))
theorem Avg (h:(Age a c).2=true):Ul a c (Age a c).1=(true,true):=by
 by_cases hk:okS a c/\(Ky a c a.Size.toNat).e=0
 ·have er:Age a c=((Ky a c a.Size.toNat).T,true):=ip0 hk;have hI:=Lo hk.1.set;obtain ⟨q1,q2,q3,q4⟩:=Alc hk.1 hk.2;rw [er];unfold Ul;rw [ip0 ⟨hk.1,hI.sml,hI.tabs⟩,dtr0 (show Ahh a c a.Size.toNat _ from ⟨q4,q1,q2⟩)]
 ·unfold Age at h;rw [in0 hk] at h;cases h
theorem Ayu {steps:List SCloneStep} (h:Agb a c steps=(true,true)):(K3 a c).2.1≠2:=by
 intro hf;by_cases hk:okS a c
 ·have hS:=hk.set;rw [hk.find] at hf;have he:(Ky a c a.Size.toNat).e=0:=by
   by_cases h1:(Ky a c a.Size.toNat).e=1
   ·rw [ip0 h1] at hf;simp at hf
   ·rw [in0 h1] at hf;simp only at hf;unfold stI at hf;by_cases h0:(Ky a c a.Size.toNat).e=0
    ·exact h0
    ·rw [in0 h0,in0 h1] at hf;omega
  obtain ⟨q1,q2,q3,q4⟩:=Alc hk he;unfold Agb at h;rw [ip0 hk] at h;by_cases hl:1<=steps.length/\steps.length<=150
  ·rw [ip0 hl] at h;cases hd:Ac6 a.Size.toNat (A7 a.Size.toNat c) a.Ops (Ao a.Size.toNat c) steps [] with
   | none=>rw [hd] at h;simp at h
   | some W=>
     rw [hd] at h;have ho:Az a.Size.toNat (nth W (W.length-1)) c:=of_decide_eq_true (congrArg Prod.fst h);have hin:=Azs q1 (Asd q2 q3) (T:=[]) (by simp) hd;have hW:0<W.length:=by
      have hgr : ∀(l:List SCloneStep) (T W:List (List Int)),Ac6 a.Size.toNat (A7 a.Size.toNat c) a.Ops (Ao a.Size.toNat c) l T=some W->W.length=T.length+l.length:=by
       intro l
       induction l with
       | nil=>intro T W h;cases h;rfl
       | cons s l ih=>
         intro T W h;unfold Ac6 at h;split at h
         ·rw [ih _ _ h];simp;omega
         ·cases h
      have:=hgr _ _ _ hd;simp at this;omega
     exact q4 _ (hin _ (Ap (by omega))) ho
  ·rw [in0 hl] at h;simp at h
 ·unfold Agb at h;rw [in0 hk] at h;simp at h
theorem Awt {rows:List (List Int)} (h:Ul a c rows=(true,true)):(K3 a c).2.1≠1:=by
 intro hf;by_cases hk:okS a c/\rows.length<=150 /\ ∀r∈rows,C4 a.Size.toNat (A7 a.Size.toNat c) r
 ·unfold Ul at h;rw [ip0 hk] at h;have hr:Ahh a c a.Size.toNat rows:=of_decide_eq_true (congrArg Prod.fst h);obtain ⟨r1,r2,r3⟩:=hr;have hS:=hk.1.set;have hI:=Lo hS;obtain ⟨har,h2,h3⟩:=hS.ar;have hf0:0<(Ao a.Size.toNat c).length:=by rw [Dn];omega
  have hz:0<rows.length:=List.length_pos_of_mem (r2 _ (Ap hf0));rw [hk.1.find] at hf;by_cases h1:(Ky a c a.Size.toNat).e=1
  ·obtain ⟨y1,y2⟩:=hI.yes h1;exact r1 _ (A13 r2 (Asd r3 hz) hI _ _ (Nat.le_refl _) (by omega)) y2
  ·rw [in0 h1] at hf;simp only at hf;unfold stI at hf;rw [in0 h1] at hf;split at hf<;>omega
 ·unfold Ul at h;rw [in0 hk] at h;simp at h
end
theorem A0i {c:Sl1Cur} {k:Nat} (h:Cur k c) (hk:k<=800000000) (a:SAlgebra) : ∃r d,Iz c a=some (r,d)/\Cur (k+4) d:=by
 unfold Iz;by_cases h0:(a.Ops.length:Int)=0
 ·rw [ip0 h0];obtain ⟨r,d,e,hd,_⟩:=Ej h (by omega) [-1,0,(a.Ops.length:Int)] (by simp);rw [e];exact ⟨_,_,rfl,hd.mono (by omega)⟩
 ·rw [in0 h0];obtain ⟨b,d,e,hd⟩:=Nh h (by omega) 16;rw [e];simp only [obs0];by_cases hb:b=true
  ·rw [ip0 hb];obtain ⟨r,d2,e2,hd2,_⟩:=Ej hd (by omega) [-1,0,(a.Ops.length:Int)] (by simp);rw [e2];exact ⟨_,_,rfl,hd2.mono (by omega)⟩
  ·rw [in0 hb];obtain ⟨r,d2,e2,hd2,_⟩:=B8 hd (by omega) (a.Ops.length:Int);rw [e2];exact ⟨_,_,rfl,hd2.mono (by omega)⟩
def Nv (l:List SCloneStep):Prop := ∀st∈l,st.Args.length<=10
theorem Nv.snoc {l:List SCloneStep} (h:Nv l) {st:SCloneStep} (hs:st.Args.length<=10):Nv (l++[st]):=λs hm=>by
 rcases List.mem_append.1 hm with hm | hm
 ·exact h s hm
 ·rw [List.mem_singleton.1 hm];exact hs
theorem Nv.set {l:List SCloneStep} (h:Nv l) {st:SCloneStep} (hs:st.Args.length<=10) (i:Nat):Nv (l.set i st):=λs hm=>by
 rcases List.mem_or_eq_of_mem_set hm with hm | hm
 ·exact h s hm
 ·rw [hm];exact hs
theorem A2i {a:SAlgebra} {k0 x8 r4:Int} {x7:List SCloneStep} (hr:0<=r4/\r4<(a.Ops.length:Int)) {c:Sl1Cur} {k:Nat} (h:Cur k c) (hk:k<=800000000) :
  ∃s d,Aq (Dt a k0 x8 x7 r4) (0,{ Op:=r4,Args:=Av Int },c)=some (s,d)/\s.Args.length<=10/\Cur (k+20) d:=by
 have hL:=Ba;obtain ⟨⟨s,d⟩,e,h1,h2⟩:=Fy (body:=Dt a k0 x8 x7 r4) (λs => ∃i:Nat,s.1=(i:Int)/\i<=4/\s.2.1.Args.length=i/\Cur (k+2*i) s.2.2) (λs=>4-s.1.toNat) (λt=>t.1.Args.length<=10/\Cur (k+20) t.2) (λs hs=>by
  obtain ⟨x,st,cu⟩:=s;obtain ⟨i,rfl,hi,hl,hc⟩:=hs;dsimp only at hl hc;unfold Dt;dsimp only;rw [Ag hr];have stop : ∃t:SCloneStep×Sl1Cur,(some (Sum.inr (st,cu)):Option ((Int×SCloneStep×Sl1Cur) ⊕ (SCloneStep×Sl1Cur)))=some (.inr t)/\t.1.Args.length<=10/\Cur (k+20) t.2:=⟨_,rfl,by dsimp only;omega,hc.mono (by omega)⟩
  by_cases h1:(i:Int)<(nth a.Ops r4.toNat).Arity
  ·rw [ip0 h1];by_cases h2:(i:Int)<4
   ·rw [ip0 h2];simp only [obs0];obtain ⟨r,d,e,hd,_⟩:=B8 hc (by omega) (x7.length:Int);rw [e];simp only [obs0];rw [Ag (by simp only [List.length_cons,List.length_nil];omega),Ag (by omega)];exact .inl ⟨_,rfl,⟨i+1,by dsimp only;omega,by omega,by simp [hl],hd.mono (by omega)⟩,by dsimp only;omega⟩
   ·rw [in0 h2];exact .inr stop
  ·rw [in0 h1];exact .inr stop) (s:=((0:Int),{ Op:=r4,Args:=Av Int },c)) ⟨0,rfl,by omega,rfl,h⟩
 exact ⟨s,d,e,h1,h2⟩
theorem A3t {a:SAlgebra} (ha:a.Ops.length<=10) {k0:Int} {c:Sl1Cur} {k:Nat} (h:Cur k c) (hk:k<=700000000) {n0:Nat} (hn:n0<=5) :
  ∃l d,Aq (Du a k0) ((n0:Int),Av SCloneStep,c)=some (l,d)/\l.length=n0+1/\Nv l/\Cur (k+240) d:=by
 have hL:=Ba;obtain ⟨⟨l,d⟩,e,h1,h2,h3⟩:=Fy (body:=Du a k0) (λs => ∃i:Nat,s.1=(n0:Int)-(i:Int)/\i<=n0+1/\s.2.1.length=i/\Nv s.2.1/\Cur (k+40*i) s.2.2) (λs=>(s.1+1).toNat) (λt=>t.1.length=n0+1/\Nv t.1/\Cur (k+240) t.2) (λs hs=>by
  obtain ⟨x,l,cu⟩:=s;obtain ⟨i,hx,hi,hl,hs1,hc⟩:=hs;dsimp only at hx hl hs1 hc;subst hx;unfold Du;dsimp only;by_cases h0:(n0:Int)-(i:Int)>=0
  ·left;rw [ip0 h0];obtain ⟨r4,u5,e4,hu5⟩:=A0i hc (by omega) a;rw [e4];simp only [obs0];obtain ⟨b,u,e5,hu,hb⟩ : ∃b u,(if (l.length:Int)=0 then some (true,u5) else if (a.Ops.length:Int)=0 then some (true,u5) else ask (InI ((a.Ops.length:Int)-1))<|(Dx r4 0 ((a.Ops.length:Int)-1)).bind λr9=>if r9=true then (Bt u5 4).bind λ(r11,u12)=>some (r11,u12) else some (true,u5):Option (Bool×Sl1Cur))=some (b,u)/\Cur (k+40*i+6) u/\(b=false->0<=r4/\r4<(a.Ops.length:Int)):=by
    by_cases c1:(l.length:Int)=0
    ·rw [ip0 c1];exact ⟨_,_,rfl,hu5.mono (by omega),by simp⟩
    ·rw [in0 c1];by_cases c2:(a.Ops.length:Int)=0
     ·rw [ip0 c2];exact ⟨_,_,rfl,hu5.mono (by omega),by simp⟩
     ·rw [in0 c2,Ag (by omega),Rh];simp only [obs0];by_cases c3:0<=r4/\r4<=(a.Ops.length:Int)-1
      ·rw [dtr0 c3,ip0 rfl];obtain ⟨b,d,e,hd⟩:=Nh hu5 (by omega) 4;rw [e];exact ⟨_,_,rfl,hd.mono (by omega),λ_=>by omega⟩
      ·rw [dfa0 c3,in0 (by simp)];exact ⟨_,_,rfl,hu5.mono (by omega),by simp⟩
   rw [e5];simp only [obs0];by_cases hbb:b=true
   ·rw [ip0 hbb,A3v];simp only [obs0];obtain ⟨r,d,e,hd,_⟩:=B8 hu (by omega) (if k0>1 then k0 else 1);rw [e];simp only [obs0];rw [Ag (by simp only [List.length_cons,List.length_nil];omega)];simp only [obs0];rw [Ag (by omega)];exact ⟨_,rfl,⟨i+1,by dsimp only;omega,by omega,by simp [hl],hs1.snoc (by simp),hd.mono (by omega)⟩,by dsimp only;omega⟩
   ·have hbf:b=false:=by simpa using hbb
    rw [in0 hbb];simp only [obs0];obtain ⟨s,d,e,hsl,hd⟩:=A2i (k0:=k0) (x8:=(n0:Int)-(i:Int)) (x7:=l) (hb hbf) hu (by omega);rw [e];simp only [obs0];rw [Ag (by simp only [List.length_cons,List.length_nil];omega),Ag (by omega)];exact ⟨_,rfl,⟨i+1,by dsimp only;omega,by omega,by simp [hl],hs1.snoc hsl,hd.mono (by omega)⟩,by dsimp only;omega⟩
  ·right;rw [in0 h0];exact ⟨_,rfl,by dsimp only;omega,hs1,hc.mono (by omega)⟩) (s:=((n0:Int),Av SCloneStep,c)) ⟨0,by dsimp only;omega,by omega,rfl,(λst hst=>absurd hst (by simp [Av])),h⟩
 exact ⟨l,d,e,h1,h2,h3⟩
theorem A4e {a:SAlgebra} {r:Int} (hr:0<=r/\r<=3) {u:Sl1Cur} {l:List SCloneStep} (hl:l.length<=70) (hs:Nv l) :
  ∃q,Aq (Cy a r u) l=some q/\l.length<=q.length/\q.length<=70/\Nv q:=by
 have hL:=Ba;obtain ⟨q,e,h1,h2,h3⟩:=Fy (body:=Cy a r u) (λs=>l.length<=s.length/\s.length<=70/\Nv s) (λs=>100-s.length) (λs=>l.length<=s.length/\s.length<=70/\Nv s) (λs ⟨h1,h2,h3⟩=>by
  unfold Cy;by_cases hc:(s.length:Int)<59+r
  ·left;rw [ip0 hc,Ag (by simp only [List.length_cons,List.length_nil];omega)];exact ⟨_,rfl,⟨by simp;omega,by simp;omega,h3.snoc (by simp)⟩,by simp;omega⟩
  ·right;rw [in0 hc];exact ⟨_,rfl,h1,h2,h3⟩) (s:=l) ⟨Nat.le_refl _,hl,hs⟩
 exact ⟨q,e,h1,h2,h3⟩
theorem As0 {a:SAlgebra} (ha:a.Ops.length<=10) (k0:Int) {c:Sl1Cur} {k:Nat} (h:Cur k c) (hk:k<=600000000) : ∃l d,E7 c a k0=some (l,d)/\l.length<=70 /\ ∀st∈l,st.Args.length<=11:=by
 have hL:=Ba;unfold E7;obtain ⟨r1,d1,e1,hd1,p1,p2⟩:=B8 h (by omega) 6;rw [e1];simp only [obs0];obtain ⟨n0,rfl⟩ : ∃n0:Nat,r1=(n0:Int):=⟨r1.toNat,by omega⟩
 obtain ⟨l1,d2,e2,q1,q2,q3⟩:=A3t ha (k0:=k0) hd1 (by omega) (n0:=n0) (by omega);rw [e2];simp only [obs0];obtain ⟨b3,d3,e3,hd3⟩:=Nh q3 (by omega) 16;rw [e3];simp only [obs0];obtain ⟨l2,d4,e4,g1,g2,g3,g4⟩ : ∃l2 d4,(if b3=true then (As d3 3).bind λ(r33,u34)=>ask (InI ((59:Int)+r33))<|(Aq (Cy a r33 u34) l1).bind λq35=>some (q35,u34) else some (l1,d3))=some (l2,d4)/\1<=l2.length/\l2.length<=70/\Nv l2/\Cur (k+300) d4:=by
  by_cases hb:b3=true
  ·rw [ip0 hb];obtain ⟨r,d,e,hd,w1,w2⟩:=B8 hd3 (by omega) 3;rw [e];simp only [obs0];rw [Ag (by omega)];obtain ⟨q,f1,f2,f3,f4⟩:=A4e (a:=a) (r:=r) (by omega) (u:=d) (l:=l1) (by omega) q2;rw [f1];exact ⟨_,_,rfl,by omega,f3,f4,hd.mono (by omega)⟩
  ·rw [in0 hb];exact ⟨_,_,rfl,by omega,by omega,q2,hd3.mono (by omega)⟩
 rw [e4];simp only [obs0];obtain ⟨b5,d5,e5,hd5⟩:=Nh g4 (by omega) 12;rw [e5];simp only [obs0];by_cases hb5:b5=true
 ·rw [ip0 hb5];obtain ⟨r6,d6,e6,hd6,i1,i2⟩:=B8 hd5 (by omega) (l2.length:Int);rw [e6];simp only [obs0];have hlt:r6.toNat<l2.length:=by omega
  have hsh:=g3 _ (Ap hlt);rw [Ag (by omega)];obtain ⟨r7,d7,e7,hd7,_⟩:=B8 hd6 (by omega) 3;rw [e7];simp only [obs0];have fin : ∀(l:List SCloneStep) (s:SCloneStep) (u:Sl1Cur),l.length=l2.length->Nv l->s.Args.length<=11->Cur (k+400) u -> ∃l' d',((As u (l.length:Int)).bind λ(r52,u53)=>ask ((0:Int)<=r52/\r52<(l.length:Int))<|some (l.set r52.toNat s,u53))=some (l',d')/\l'.length<=70 /\ ∀st∈l',st.Args.length<=11:=by
   intro l s u hl hs hsl hu;obtain ⟨r,d,e,_,w1,w2⟩:=B8 hu (by omega) (l.length:Int);rw [e];simp only [obs0];rw [Ag (by omega)];refine ⟨_,_,rfl,by simp;omega,λst hst=> ?_⟩;rcases List.mem_or_eq_of_mem_set hst with hst | hst
   ·have:=hs st hst;omega
   ·rw [hst];exact hsl
  by_cases c0:r7=0
  ·rw [ip0 c0];obtain ⟨r,d,e,hd,_⟩:=Ej hd7 (by omega) [-2,(a.Ops.length:Int),0] (by simp);rw [e];simp only [obs0];exact fin l2 _ d rfl g3 (by dsimp only;omega) (hd.mono (by omega))
  ·rw [in0 c0];by_cases c1:r7=1
   ·rw [ip0 c1,Ag (by omega)];simp only [obs0];exact fin l2 _ d7 rfl g3 (by simp;omega) (hd7.mono (by omega))
   ·rw [in0 c1];by_cases c2:r7=2
    ·rw [ip0 c2];by_cases c3:((nth l2 r6.toNat).Args.length:Int)>0
     ·rw [ip0 c3];obtain ⟨r,d,e,hd,_⟩:=Ej hd7 (by omega) [-1,(l2.length:Int),3] (by simp);rw [e];simp only [obs0];exact fin _ _ d (by simp) (g3.set (by simp;omega) _) (by simp;omega) (hd.mono (by omega))
     ·rw [in0 c3];simp only [obs0];exact fin l2 _ d7 rfl g3 (by omega) (hd7.mono (by omega))
    ·rw [in0 c2];simp only [obs0];exact fin l2 _ d7 rfl g3 (by omega) (hd7.mono (by omega))
 ·rw [in0 hb5];exact ⟨_,_,rfl,g2,λst hst=>by have:=g3 st hst;omega⟩
section
variable {code:List Int} (hc : ∀x∈code,0<=x/\x<=255) (hl:code.length<=65536)
include hc hl
theorem Aqp : ∃a c,G3 code=some (a,c)/\Vl a/\Acs c:=by unfold G3;obtain ⟨a,d,e,hd,ha⟩:=Va (At8 hc hl) (by omega);rw [e];simp only [obs0];obtain ⟨c,d2,e2,hd2,hc2⟩:=V3 hd (by omega);rw [e2];exact ⟨_,_,rfl,ha,hc2⟩
end
theorem A36 {a:SAlgebra} {c:SCondition} {r:Int} (hr:0<=r/\r<=3) {q:Sl1Cur} {l:List SCloneStep} (h0:0<l.length) (hl:l.length<=160) (hs : ∀st∈l,st.Args.length<=11) :
  ∃l',Aq (D7 a c r q) l=some l'/\l'.length<=160/\l.length<=l'.length/\(149:Int)+r<=(l'.length:Int) /\ ∀st∈l',st.Args.length<=11:=by
 have hL:=Ba;obtain ⟨q,e,h1,h2,h3,h4⟩:=Fy (body:=D7 a c r q) (λs=>l.length<=s.length/\s.length<=160 /\ ∀st∈s,st.Args.length<=11) (λs=>200-s.length) (λs=>s.length<=160/\l.length<=s.length/\(149:Int)+r<=(s.length:Int) /\ ∀st∈s,st.Args.length<=11) (λs ⟨h1,h2,h3⟩=>by
  unfold D7;by_cases hcc:(s.length:Int)<149+r
  ·left;rw [ip0 hcc,Ag (by omega),Ag (by simp only [List.length_cons,List.length_nil];omega)];refine ⟨_,rfl,⟨by simp;omega,by simp;omega,λst hst=> ?_⟩,by simp;omega⟩;rcases List.mem_append.1 hst with hst | hst
   ·exact h3 st hst
   ·rw [List.mem_singleton.1 hst];exact h3 _ (Ap (show 0<s.length by omega))
  ·right;rw [in0 hcc];exact ⟨_,rfl,h2,h1,by omega,h3⟩) (s:=l) ⟨Nat.le_refl _,hl,hs⟩
 exact ⟨q,e,h1,h2,h3,h4⟩
theorem A1y {a:SAlgebra} {c:SCondition} {r:Int} (hr:0<=r/\r<=3) {q:Sl1Cur} {k:Nat} (hq:Cur k q) (hk:k<=700000000) {l:List SCloneStep} (h0:0<l.length) (hl:l.length<=160) (hs : ∀st∈l,st.Args.length<=11) :
  ∃l',Aq (D9 a c r) (l,q)=some l'/\l'.length<=160 /\ ∀st∈l',st.Args.length<=11:=by
 have hL:=Ba;obtain ⟨l',e,h1,h2⟩:=Fy (body:=D9 a c r) (λs=>0<s.1.length/\s.1.length<=160/\(∀st∈s.1,st.Args.length<=11)/\Cur (k+2*s.1.length) s.2) (λs=>200-s.1.length) (λs=>s.length<=160 /\ ∀st∈s,st.Args.length<=11) (λs hs=>by
  obtain ⟨l,q⟩:=s;obtain ⟨g0,g1,g2,g3⟩:=hs;dsimp only at g0 g1 g2 g3;unfold D9;dsimp only;obtain ⟨b,d,e,hd⟩:=Nh g3 (by omega) 2;rw [e];simp only [obs0];have stop : ∃t:List SCloneStep,(some (Sum.inr l):Option ((List SCloneStep×Sl1Cur) ⊕ List SCloneStep))=some (.inr t)/\t.length<=160 /\ ∀st∈t,st.Args.length<=11:=⟨_,rfl,g1,g2⟩
  by_cases hb:b=true
  ·rw [ip0 hb];by_cases hlt:(l.length:Int)<149+r
   ·rw [ip0 hlt];simp only [obs0];rw [Ag (by omega),Ag (by simp;omega)];obtain ⟨l',e',f1,f2,f3,f4⟩:=A36 (a:=a) (c:=c) hr (q:=d) (l:=[{ Op:=(-1:Int),Args:=[(0:Int)] }]++List.take (Int.toNat (1:Int)-Int.toNat (0:Int)) (List.drop (Int.toNat (0:Int)) l)) (by simp) (by simp;omega) (λst hst=>by
     rcases List.mem_append.1 hst with hst | hst
     ·rw [List.mem_singleton.1 hst];simp
     ·exact g2 st (List.mem_of_mem_drop (List.mem_of_mem_take hst)))
    rw [e'];exact .inl ⟨_,rfl,⟨by dsimp only;omega,f1,f4,hd.mono (by dsimp only;omega)⟩,by dsimp only;omega⟩
   ·rw [in0 hlt];exact .inr stop
  ·rw [in0 hb];exact .inr stop) (s:=(l,q)) ⟨h0,hl,hs,hq.mono (by omega)⟩
 exact ⟨l',e,h1,h2⟩
section
variable {code:List Int} (hc : ∀x∈code,0<=x/\x<=255) (hl:code.length<=65536)
include hc hl
theorem Aq1 : ∃a c l,G4 code=some (a,c,l)/\Vl a/\Acs c/\l.length<=160 /\ ∀st∈l,st.Args.length<=11:=by
 have hL:=Ba;unfold G4;obtain ⟨a,d,e,hd,ha⟩:=Va (At8 hc hl) (by omega);rw [e];simp only [obs0];obtain ⟨c,d2,e2,hd2,hc2⟩:=V3 hd (by omega);rw [e2];simp only [obs0];rw [Kt (Sh ha) (Sl hc2)];simp only [obs0];have lst : ∀q:Sl1Cur,Cur 10000 q -> ∃a' c' l,((E7 q a c.Arity).bind λ(r38,u39)=>some (a,c,r38))=some (a',c',l)/\Vl a'/\Acs c'/\l.length<=160 /\ ∀st∈l,st.Args.length<=11:=by intro q hq;obtain ⟨l,d,e,h1,h2⟩:=As0 ha.1 c.Arity hq (by omega);rw [e];exact ⟨_,_,_,rfl,ha,hc2,by omega,h2⟩
 by_cases hk:okS a c
 ·have h:=hk.set;have hI:=Lo h;obtain ⟨R,eR,hR⟩:=Adp h;rw [dtr0 hk,ip0 rfl];obtain ⟨b,d3,e3,hd3⟩:=Nh hd2 (by omega) 3;rw [e3];simp only [obs0];by_cases hb:(!b)=true
  ·rw [ip0 hb,eR];simp only [obs0];by_cases hp:R.place>=0
   ·have h1:(Ky a c a.Size.toNat).e=1:=by
     have:=hR.place;by_cases h1:(Ky a c a.Size.toNat).e=1
     ·exact h1
     ·rw [in0 h1] at this;omega
    obtain ⟨y1,_⟩:=hI.yes h1;have hSl:=hI.len;have hsm:=hI.sml;have hargs:=Apl h hI;rw [ip0 hp,hR.steps,Asi (by omega) (λst hst=>by have:=hargs st hst;omega)];simp only [obs0];generalize (Ky a c a.Size.toNat).S=S at hSl hargs;have hs11 : ∀st∈S,st.Args.length<=11:=λst hst=>by have:=hargs st hst;omega
    obtain ⟨r4,d4,e4,hd4,_⟩:=B8 hd3 (by omega) 6;rw [e4];simp only [obs0];by_cases c0:r4=0
    ·rw [ip0 c0,Ag (by omega),Ag (by omega)];simp only [obs0];exact ⟨_,_,_,rfl,ha,hc2,by simp;omega,λst hst=>hs11 st (List.mem_of_mem_drop (List.mem_of_mem_take hst))⟩
    ·rw [in0 c0];by_cases c1:r4=1
     ·rw [ip0 c1];obtain ⟨r5,d5,e5,hd5,w1,w2⟩:=B8 hd4 (by omega) (S.length:Int);rw [e5];simp only [obs0];obtain ⟨r6,d6,e6,hd6,_⟩:=B8 hd5 (by omega) 3;rw [e6];simp only [obs0];rw [Ag (by omega)];simp only [obs0];refine ⟨_,_,_,rfl,ha,hc2,by simp;omega,λst hst=> ?_⟩;rcases List.mem_or_eq_of_mem_set hst with hst | hst
      ·exact hs11 st hst
      ·rw [hst];simp
     ·rw [in0 c1];by_cases c2:r4=2
      ·rw [ip0 c2];obtain ⟨r5,d5,e5,hd5,w1,w2⟩:=B8 hd4 (by omega) 3;rw [e5];simp only [obs0];rw [Ag (by omega)];obtain ⟨l',f1,f2,f3⟩:=A1y (a:=a) (c:=c) (r:=r5) (by omega) hd5 (by omega) (l:=S) (by omega) (by omega) hs11;rw [f1];simp only [obs0];exact ⟨_,_,_,rfl,ha,hc2,f2,f3⟩
      ·rw [in0 c2];simp only [obs0];exact ⟨_,_,_,rfl,ha,hc2,by omega,hs11⟩
   ·rw [in0 hp];simp only [obs0];exact lst _ (hd3.mono (by omega))
  ·rw [in0 hb];simp only [obs0];exact lst _ (hd3.mono (by omega))
 ·rw [dfa0 hk,in0 (by simp)];simp only [obs0];rw [in0 (by simp)];simp only [obs0];exact lst _ (hd2.mono (by omega))
end
def Vm (l:List (List Int)):Prop := ∀r∈l,r.length<=200
theorem A3h {a:SAlgebra} {c:SCondition} {u:Sl1Cur} {R:Sl15Search} (_hR:R.rows.length<=150) (hr:Vm R.rows) : ∃q,Aq (Ce a c u R) (0,Av (List Int))=some q/\q.length<=40/\Vm q:=by
 have hL:=Ba;obtain ⟨q,e,h1,h2⟩:=Fy (body:=Ce a c u R) (λs => ∃i:Nat,s.1=(i:Int)/\i<=40/\s.2.length=i/\Vm s.2) (λs=>40-s.1.toNat) (λq=>q.length<=40/\Vm q) (λs hs=>by
  obtain ⟨x,l⟩:=s;obtain ⟨i,rfl,hi,hl,hs⟩:=hs;dsimp only at hl hs;unfold Ce;dsimp only;have stop : ∃t:List (List Int),(some (Sum.inr l):Option ((Int×List (List Int)) ⊕ List (List Int)))=some (.inr t)/\t.length<=40/\Vm t:=⟨_,rfl,by omega,hs⟩
  by_cases c1:(i:Int)<(R.rows.length:Int)
  ·rw [ip0 c1];by_cases c2:(i:Int)<40
   ·rw [ip0 c2];simp only [obs0];have hrl:=hr _ (Ap (show i<R.rows.length by omega));rw [Ag (by omega),tna0,Atl (by omega)];simp only [obs0];rw [Ag (by simp only [List.length_cons,List.length_nil];omega),Ag (by omega)];refine .inl ⟨_,rfl,⟨i+1,by dsimp only;omega,by omega,by simp [hl],λr hm=> ?_⟩,by dsimp only;omega⟩;rcases List.mem_append.1 hm with hm | hm
    ·exact hs r hm
    ·rw [List.mem_singleton.1 hm];exact hrl
   ·rw [in0 c2];exact .inr stop
  ·rw [in0 c1];exact .inr stop) (s:=((0:Int),Av (List Int))) ⟨0,rfl,by omega,rfl,(λr hr=>absurd hr (by simp [Av]))⟩
 exact ⟨q,e,h1,h2⟩
theorem A4q {a:SAlgebra} (ha:a.Ops.length<=10) {c:SCondition} {u:Sl1Cur} {l:List (List Int)} (b0:Bool) : ∃b,Aq (Cz a c l u) (0,b0)=some b/\(b=true->b0=true):=by
 obtain ⟨b,e,h⟩:=Fy (body:=Cz a c l u) (λs => ∃i:Nat,s.1=(i:Int)/\i<=a.Ops.length/\(s.2=true->b0=true)) (λs=>a.Ops.length-s.1.toNat) (λb=>b=true->b0=true) (λs hs=>by
  obtain ⟨x,b⟩:=s;obtain ⟨i,rfl,hi,hb⟩:=hs;dsimp only at hb;unfold Cz;dsimp only;by_cases c1:(i:Int)<(a.Ops.length:Int)
  ·left;rw [ip0 c1];by_cases c2:b=true
   ·rw [ip0 c2,Ag (by omega),Ag (by omega)];exact ⟨_,rfl,⟨i+1,by dsimp only;omega,by omega,λ_=>hb c2⟩,by dsimp only;omega⟩
   ·rw [in0 c2,Ag (by omega)];exact ⟨_,rfl,⟨i+1,by dsimp only;omega,by omega,λh=>by simp at h⟩,by dsimp only;omega⟩
  ·right;rw [in0 c1];exact ⟨_,rfl,hb⟩) (s:=((0:Int),b0)) ⟨0,rfl,by omega,id⟩
 exact ⟨b,e,h⟩
theorem A3q {a:SAlgebra} {c:SCondition} {b:Bool} {r:Int} (hr:0<=r/\r<=3) {l:List (List Int)} (h0:b=true->0<l.length) (hl:l.length<=160) (hs:Vm l) : ∃q,Aq (Cx a c b r) l=some q/\q.length<=160/\Vm q:=by
 have hL:=Ba;obtain ⟨q,e,h1,h2⟩:=Fy (body:=Cx a c b r) (λs=>(b=true->0<s.length)/\s.length<=160/\Vm s) (λs=>200-s.length) (λs=>s.length<=160/\Vm s) (λs ⟨g0,g1,g2⟩=>by
  unfold Cx;by_cases c1:b=true
  ·rw [ip0 c1];have:=g0 c1;by_cases c2:(s.length:Int)<149+r
   ·left;rw [ip0 c2,Ag (by omega),Ag (by simp only [List.length_cons,List.length_nil];omega)];refine ⟨_,rfl,⟨λ_=>by simp,by simp;omega,λx hx=> ?_⟩,by simp;omega⟩;rcases List.mem_append.1 hx with hx | hx
    ·exact g2 x hx
    ·rw [List.mem_singleton.1 hx];exact g2 _ (Ap this)
   ·right;rw [in0 c2];exact ⟨_,rfl,g1,g2⟩
  ·right;rw [in0 c1];exact ⟨_,rfl,g1,g2⟩) (s:=l) ⟨h0,hl,hs⟩
 exact ⟨q,e,h1,h2⟩
section
variable {code:List Int} (hc : ∀x∈code,0<=x/\x<=255) (hl:code.length<=65536)
include hc hl
theorem Ah2 : ∃a c l,E3 code=some (a,c,l)/\Vl a/\Acs c/\l.length<=160/\Vm l:=by
 have hL:=Ba;unfold E3;obtain ⟨a,d,e,hd,ha⟩:=Va (At8 hc hl) (by omega);rw [e];simp only [obs0];obtain ⟨c,d2,e2,hd2,hc2⟩:=V3 hd (by omega);rw [e2];simp only [obs0];rw [Kt (Sh ha) (Sl hc2)];simp only [obs0];obtain ⟨l,el,hl40,hls⟩ : ∃l,(if decide (okS a c)=true then (Et a c).bind λr7=>(Aq (Ce a c d2 r7) (0,Av (List Int))).bind λq14_8=>some q14_8 else some (Av (List Int)):Option (List (List Int)))=some l/\l.length<=40/\Vm l:=by
  by_cases hk:okS a c
  ·have h:=hk.set;have hI:=Lo h;obtain ⟨R,eR,hR⟩:=Adp h;have hlen:=h.len;have hsm:=hI.sml;obtain ⟨q,e1,h1,h2⟩:=A3h (a:=a) (c:=c) (u:=d2) (R:=R) (by rw [hR.rows];exact hsm) (λr hr=>by
    rw [hR.rows] at hr;have:=(hI.tabs r hr).1;omega)
   rw [dtr0 hk,ip0 rfl,eR];simp only [obs0];rw [e1];exact ⟨q,rfl,h1,h2⟩
  ·rw [dfa0 hk,in0 (by simp)];exact ⟨_,rfl,by simp [Av],λr hr=>absurd hr (by simp [Av])⟩
 rw [el];simp only [obs0];obtain ⟨r3,d3,e3,hd3,_⟩:=B8 hd2 (by omega) 8;rw [e3];simp only [obs0];by_cases c0:r3=0
 ·rw [ip0 c0];by_cases h0:(l.length:Int)>0
  ·rw [ip0 h0,Ag (by omega)];exact ⟨_,_,_,rfl,ha,hc2,by simp;omega,λr hr=>hls r (List.mem_of_mem_drop (List.mem_of_mem_take hr))⟩
  ·rw [in0 h0];exact ⟨_,_,_,rfl,ha,hc2,by omega,hls⟩
 ·rw [in0 c0];by_cases c1:r3=1
  ·rw [ip0 c1];by_cases h0:(l.length:Int)>0
   ·rw [ip0 h0,Ag (by omega)];simp only [obs0];by_cases h1:((nth l (Int.toNat 0)).length:Int)>0
    ·rw [dtr0 h1,ip0 rfl,Ag (by omega)];obtain ⟨r4,d4,e4,hd4,w1,w2⟩:=B8 hd3 (by omega) ((nth l (Int.toNat 0)).length:Int);rw [e4];simp only [obs0];obtain ⟨r5,d5,e5,hd5,_⟩:=Ej hd4 (by omega) [0,1, -1,a.Size] (by simp);rw [e5];simp only [obs0];rw [Ag (by omega)];refine ⟨_,_,_,rfl,ha,hc2,by simp;omega,λr hr=> ?_⟩;rcases List.mem_or_eq_of_mem_set hr with hr | hr
     ·exact hls r hr
     ·rw [hr,List.length_set];exact hls _ (Ap (show 0<l.length by omega))
    ·rw [dfa0 h1,in0 (by simp)];exact ⟨_,_,_,rfl,ha,hc2,by omega,hls⟩
   ·rw [in0 h0];simp only [obs0];rw [in0 (by simp)];exact ⟨_,_,_,rfl,ha,hc2,by omega,hls⟩
  ·rw [in0 c1];by_cases c2:r3=2
   ·rw [ip0 c2,Ag (by simp only [List.length_cons,List.length_nil];omega)];refine ⟨_,_,_,rfl,ha,hc2,by simp;omega,λr hr=> ?_⟩;rcases List.mem_append.1 hr with hr | hr
    ·exact hls r hr
    ·rw [List.mem_singleton.1 hr];simp
   ·rw [in0 c2];by_cases c3:r3=3
    ·rw [ip0 c3];obtain ⟨b,eb,hb⟩:=A4q ha.1 (c:=c) (u:=d3) (l:=l) (decide ((l.length:Int)>0));rw [eb];simp only [obs0];obtain ⟨r4,d4,e4,hd4,w1,w2⟩:=B8 hd3 (by omega) 3;rw [e4];simp only [obs0];rw [Ag (by omega)];obtain ⟨q,eq,q1,q2⟩:=A3q (a:=a) (c:=c) (b:=b) (r:=r4) (by omega) (l:=l) (λhh=>by have:=of_decide_eq_true (hb hh);omega) (by omega) hls;rw [eq];exact ⟨_,_,_,rfl,ha,hc2,q1,q2⟩
    ·rw [in0 c3];exact ⟨_,_,_,rfl,ha,hc2,by omega,hls⟩
end
end Go.Proofs.Ytaalgpkajkogkaa.Ax
