/-
 Plain facts, joined.
-/
import Derived.Test.YtjcekpmojnnmbaaGreatPA
import Derived.Test.YtjcekpmojnnmbaaGreatSo3
namespace Go.Proofs.YtjcekpmojnnmbaaGreat.Ax
open Go Classical
def Az8 (m i:Nat):Bool:=decide (m/2^i%2=1)
def Mk (a b:List Int):Prop := ∃i,i<a.length∧(∀j,j<i→nth a j=nth b j)∧nth a i<nth b i
theorem Aea {a b:List Int} (hl:a.length=b.length) (h:a.length≤LIM):Hs a b=some (decide (Mk a b)):=by
 unfold Hs
 rw [Bd] at h
 rw [show ((0:Int))=(((0:Nat)):Int) from rfl]
 rcases Afe (body:=Eb a b) (fun i=>(i:Int)) a.length (fun i=>nth a i≠nth b i) (fun i=> .inl (decide (nth a i<nth b i))) (.inr ()) (fun i hi hh=>by
   unfold Eb
   rw [if_pos (by omega),Af (by omega),Af (by omega),Int.toNat_natCast,if_neg hh,Af (by unfold InI;omega)];rfl) (fun i hi hh=>by
   unfold Eb
   rw [if_pos (by omega),Af (by omega),Af (by omega),Int.toNat_natCast,if_pos hh,Af (by omega),Af (by omega)]) (by
   unfold Eb
   rw [if_neg (by omega)]) with ⟨i,hi,hh,hf,e⟩ | ⟨hn,e⟩
 ·rw [e]
  simp only [Option.bind_some]
  congr 1
  rw [decide_eq_decide]
  constructor
  ·intro hlt
   exact ⟨i,hi,fun j hj=>Classical.not_not.1 (hf j hj),hlt⟩
  ·rintro ⟨k,hk,h1,h2⟩
   rcases Nat.lt_trichotomy k i with hki | hki | hki
   ·have:=Classical.not_not.1 (hf k hki);omega
   ·subst hki;exact h2
   ·exact absurd (h1 i hki) hh
 ·rw [e,decide_eq_false]
  ·rfl
  ·rintro ⟨k,hk,_,h2⟩
   have:=Classical.not_not.1 (hn k hk);omega
theorem Yc {a b:List Int} (hl:a.length=b.length) (h:a.length≤LIM) : ∃c,C1 a b=some c∧(¬c≥0↔Mk a b):=by
 unfold C1
 rw [Bd] at h
 rw [show ((0:Int))=(((0:Nat)):Int) from rfl]
 rcases Afe (body:=Cf a b) (fun i=>(i:Int)) a.length (fun i=>nth a i≠nth b i) (fun i=> .inl (if nth a i<nth b i then -1 else 1)) (.inr ()) (fun i hi hh=>by
   unfold Cf
   rw [if_pos (by omega),if_pos (by omega)]
   simp only [Option.bind_some]
   rw [Af (by omega),Af (by omega),Int.toNat_natCast,if_neg hh,Af (by unfold InI;omega)];rfl) (fun i hi hh=>by
   unfold Cf
   rw [if_pos (by omega),if_pos (by omega)]
   simp only [Option.bind_some]
   rw [Af (by omega),Af (by omega),Int.toNat_natCast,if_pos hh,Af (by omega),Af (by omega)]
   split<;>rfl) (by
   unfold Cf
   rw [if_neg (by omega)];rfl) with ⟨i,hi,hh,hf,e⟩ | ⟨hn,e⟩
 ·rw [e]
  refine ⟨_,rfl,?_⟩
  constructor
  ·intro hlt
   refine ⟨i,hi,fun j hj=>Classical.not_not.1 (hf j hj),?_⟩
   by_cases hc:nth a i<nth b i
   ·exact hc
   ·rw [if_neg hc] at hlt;omega
  ·rintro ⟨k,hk,h1,h2⟩
   have hki:k=i:=by
    rcases Nat.lt_trichotomy k i with hki | hki | hki
    ·have:=Classical.not_not.1 (hf k hki);omega
    ·exact hki
    ·exact absurd (h1 i hki) hh
   subst hki
   rw [if_pos h2];omega
 ·rw [e]
  simp only [Option.bind_some]
  rw [if_neg (by omega),if_neg (by omega)]
  refine ⟨_,rfl,?_⟩
  constructor
  ·intro hc;omega
  ·rintro ⟨k,hk,_,h2⟩
   have:=Classical.not_not.1 (hn k hk);omega
def anti (f:Nat→Nat→Bool) (ls:List Int):Prop := ∀x∈ls,∀y∈ls,¬(x.toNat≠y.toNat∧f x.toNat y.toNat=true)
end Go.Proofs.YtjcekpmojnnmbaaGreat.Ax
namespace Go.Proofs.YtjcekpmojnnmbaaGreat.Ax
open Go Classical
theorem Ahs (m i:Nat):Az8 m i=m.testBit i:=by
 unfold Az8
 rw [Nat.testBit_eq_decide_div_mod_eq]
def pc (n m:Nat):Nat:=(Qd n (Az8 m)).length
theorem Avp {q q':Nat→Bool} {x:Nat} (hq:q x=false) (h : ∀i,q' i=(q i || decide (x=i))) : ∀n,(Qd n q').length=(Qd n q).length+if x<n then 1 else 0:=by
 intro n
 induction n with
 | zero=>simp [Qd]
 | succ n ih=>
   rw [Ah4,Ah4,h n]
   by_cases hxn:x=n
   ·subst hxn
    rw [hq]
    simp only [decide_true,Bool.or_true,if_true,Bool.false_eq_true,if_false]
    rw [List.length_append,ih,if_neg (by omega),if_pos (by omega)];rfl
   ·rw [decide_eq_false hxn,Bool.or_false]
    by_cases hqn:q n=true
    ·rw [if_pos hqn,if_pos hqn,List.length_append,List.length_append,ih]
     by_cases hx:x<n
     ·rw [if_pos hx,if_pos (by omega)];simp
     ·rw [if_neg hx,if_neg (by omega)];rfl
    ·rw [if_neg hqn,if_neg hqn,ih]
     by_cases hx:x<n
     ·rw [if_pos hx,if_pos (by omega)]
     ·rw [if_neg hx,if_neg (by omega)]
def wt (n m:Nat):Nat:=10^(10-pc n m)
def phi (n:Nat) (ws:List Int):Nat→Nat→Int
 | _,0=>0
 | M,k+1=>nth ws M*wt n M+phi n ws (M+1) k
section
variable {n:Nat} {f:Nat→Nat→Bool}
structure okW (n m:Nat) (ws:List Int):Prop where
 len:ws.length=2^n
 pos : ∀i,i<ws.length→0≤nth ws i
 sum:phi n ws m (2^n-m)≤10000000000
end
end Go.Proofs.YtjcekpmojnnmbaaGreat.Ax
namespace Go.Proofs.YtjcekpmojnnmbaaGreat.Ax
open Go Classical
end Go.Proofs.YtjcekpmojnnmbaaGreat.Ax
namespace Go.Proofs.YtjcekpmojnnmbaaGreat.Ax
open Go Classical
end Go.Proofs.YtjcekpmojnnmbaaGreat.Ax
namespace Go.Proofs.YtjcekpmojnnmbaaGreat.Ax
open Go Classical
noncomputable def round (n:Nat) (g h:Nat→Nat→Nat) (S:Nat→Bool):Nat→Bool:=fun z=>decide (S z=true ∨ ∃x y,x<n∧y<n∧S x=true∧S y=true∧(z=g x y∨z=h x y))
noncomputable def Ao8 (n:Nat) (g h:Nat→Nat→Nat) (S:Nat→Bool):Nat→Nat→Bool
 | 0=>S
 | k+1=>round n g h (Ao8 n g h S k)
section
variable {n:Nat} {g h:Nat→Nat→Nat} {S:Nat→Bool}
def A38 (n:Nat) (g h:Nat→Nat→Nat) (S:Nat→Bool) (k:Nat):Prop := ∀z,z<n→Ao8 n g h S (k+1) z=Ao8 n g h S k z
noncomputable def closed (n:Nat) (g h:Nat→Nat→Nat) (S:Nat→Bool):Nat→Bool:=Ao8 n g h S n
def A34 (n:Nat) (S:Nat→Bool):List Nat:=(List.range n).filter S
end
end Go.Proofs.YtjcekpmojnnmbaaGreat.Ax
namespace Go.Proofs.YtjcekpmojnnmbaaGreat.Ax
open Go Classical
theorem Ap8 {xs ys:List Int} (h:xs.length≤LIM):J5 xs ys=some (decide (xs=ys)):=by
 unfold J5
 rw [Bd] at h
 split
 ·rename_i hl
  rw [decide_eq_false]
  rintro rfl;exact hl rfl
 rename_i hl
 have hl:xs.length=ys.length:=by omega
 have:=M1 (body:=Ef xs ys) (fun i=>(i:Int)) xs.length (fun i=>¬nth xs i=nth ys i) () () (fun i hi hb=>by
  unfold Ef
  rw [if_pos (by omega),Af (by omega),Af (by omega)]
  simp only [Int.toNat_natCast]
  rw [if_neg (by simpa using hb),Af (by unfold InI;omega)];rfl) (fun i hi hb=>by
  unfold Ef
  rw [if_pos (by omega),Af (by omega),Af (by omega)]
  simp only [Int.toNat_natCast]
  rw [if_pos hb]) (by unfold Ef;rw [if_neg (by omega)]) 0 (by omega)
 show ((Ao _ ((0:Nat):Int)).bind _)=_
 rw [this]
 by_cases hx : ∃i,0≤i∧i<xs.length∧¬nth xs i=nth ys i
 ·rw [if_pos hx,decide_eq_false]
  ·rfl
  ·rintro rfl;obtain ⟨i,_,_,hc⟩:=hx;exact hc rfl
 ·rw [if_neg hx,decide_eq_true (Pt hl (Ty.1 hx))]
  rfl
end Go.Proofs.YtjcekpmojnnmbaaGreat.Ax
namespace Go.Proofs.YtjcekpmojnnmbaaGreat.Ax
open Go Classical
end Go.Proofs.YtjcekpmojnnmbaaGreat.Ax
namespace Go.Proofs.YtjcekpmojnnmbaaGreat.Ax
open Go Classical
def As7 (n:Nat) (f:SOp):Prop:=0≤f.Arity∧f.Arity≤3∧f.Table.length=n^f.Arity.toNat∧Ba f.Table n
def Axr (a:SAlgebra):Prop:=1≤a.Size∧a.Size≤8∧a.Ops.length≤4 ∧ ∀f∈a.Ops,As7 a.Size.toNat f
theorem Ahp {n k:Nat} (hn:n≤8) (hk:k≤3):n^k≤512:=
 Nat.le_trans (Nat.pow_le_pow_left hn k) (Nat.le_trans (Nat.pow_le_pow_right (by omega) hk) (by decide))
theorem A06 {n k:Nat} (hn:n≤8) (hk:k≤3):Ek n k=some ((n^k:Nat):Int):=by
 unfold Ek
 have key:=Bk (body:=Cg n) (fun j=>(((n^j:Nat):Int),((k:Int)-(j:Int)))) k ((n^k:Nat):Int) (fun j hj=>by
  unfold Cg
  dsimp only
  have hp:=Ahp hn (show j+1≤3 by omega)
  rw [Nat.pow_succ] at hp
  rw [if_pos (by omega),←Int.natCast_mul,Nat.pow_succ]
  generalize n^j*n=N at hp ⊢
  rw [Af (by unfold InI;omega),Af (by unfold InI;omega),show ((k:Int)-(j:Int)-1)=(k:Int)-((j+1:Nat):Int) by omega]) (by
  unfold Cg
  dsimp only
  rw [if_neg (by omega)])
 have key':Ao (Cg n) (1,(k:Int))=some ((n^k:Nat):Int):=by simpa using key
 rw [key'];rfl
theorem Axo {n:Nat} (hn:n≤8) {f:SOp} (hl:f.Table.length≤LIM):K7 f n=some (decide (As7 n f)):=by
 unfold K7
 by_cases h0:0≤f.Arity
 ·rw [if_pos (show f.Arity≥0 from h0)]
  by_cases h3:f.Arity≤3
  ·have e:Ek (n:Int) f.Arity=some ((n^f.Arity.toNat:Nat):Int):=by
    have:=A06 hn (k:=f.Arity.toNat) (by omega)
    rwa [show ((f.Arity.toNat:Nat):Int)=f.Arity by omega] at this
   rw [if_pos h3,e]
   simp only [Option.bind_some]
   by_cases hL:f.Table.length=n^f.Arity.toNat
   ·rw [if_pos (by rw [hL]),Ahw _ _ hl]
    simp only [Option.bind_some]
    congr 1
    rw [decide_eq_decide]
    exact ⟨fun h=>⟨h0,h3,hL,h⟩,fun h=>h.2.2.2⟩
   ·rw [if_neg (fun hc=>hL (Int.ofNat_inj.1 hc)),decide_eq_false (fun h=>hL h.2.2.1)]
  ·rw [if_neg h3,decide_eq_false (fun h=>h3 h.2.1)]
 ·rw [if_neg (by omega),decide_eq_false (fun h=>h0 h.1)]
def Arm (a:SAlgebra):List Int:=a.Ops.map (·.Arity)
theorem Abd {xs ys:List Int} (h:xs.length≤LIM):Fy xs ys=some (decide (xs=ys)):=by
 unfold Fy
 rw [Bd] at h
 by_cases hne:xs.length=ys.length
 ·rw [if_neg (by omega)]
  have this:=M1 (body:=Df xs ys) (fun i=>(i:Int)) xs.length (fun i=>¬nth xs i=nth ys i) () () (fun i hi hb=>by
   unfold Df
   rw [if_pos (by omega),Af (by omega),Af (by omega)]
   simp only [Int.toNat_natCast]
   rw [if_neg (fun hc=>hc (Classical.not_not.1 hb).symm),Af (by unfold InI;omega)];rfl) (fun i hi hb=>by
   unfold Df
   rw [if_pos (by omega),Af (by omega),Af (by omega)]
   simp only [Int.toNat_natCast]
   rw [if_pos (fun hc=>hb hc.symm)]) (by unfold Df;rw [if_neg (by omega)]) 0 (by omega)
  refine (Ug this false true).trans (congrArg some (Aor ?_))
  rw [Ty]
  exact ⟨fun hh=>Pt hne hh,fun hh i _=>by rw [hh]⟩
 ·rw [if_pos (by omega),decide_eq_false (fun hh=>hne (by rw [hh]))]
end Go.Proofs.YtjcekpmojnnmbaaGreat.Ax
namespace Go.Proofs.YtjcekpmojnnmbaaGreat.Ax
open Go Classical
def Bi (n:Nat):Nat→Nat→List Int
 | 0,_=>[]
 | r+1,k=>Bi n r (k/n)++[((k%n:Nat):Int)]
theorem G8 (n:Nat) : ∀r k,(Bi n r k).length=r:=by
 intro r
 induction r with
 | zero=>intro k;rfl
 | succ r ih=>intro k;simp [Bi,ih]
theorem Adw {n:Nat} (hn:0<n) : ∀r k,Ba (Bi n r k) n:=by
 intro r
 induction r with
 | zero=>intro k x hx;cases hx
 | succ r ih=>
   intro k x hx
   simp only [Bi] at hx
   rcases List.mem_append.1 hx with hx | hx
   ·exact ih _ x hx
   ·rw [List.mem_singleton.1 hx]
    have:=Nat.mod_lt k hn
    omega
theorem A0x {n:Nat} (hn:0<n) (hn8:n≤8) : ∀(r k:Nat) (xs:List Int),r≤xs.length→xs.length≤1000→k≤1048576→Ao (D8 n) ((r:Int)-1,xs,(k:Int))=some (Bi n r k++xs.drop r):=by
 intro r
 induction r with
 | zero=>
   intro k xs _ _ _
   refine E1 ?_
   unfold D8
   dsimp only
   rw [if_neg (by omega)]
   simp [Bi]
 | succ r ih=>
   intro k xs hr hl hk
   have c1:(k:Int).tdiv (n:Int)=((k/n:Nat):Int):=rfl
   have c2:(k:Int).tmod (n:Int)=((k%n:Nat):Int):=rfl
   have hd:k/n≤k:=Nat.div_le_self k n
   have step:D8 n (((r+1:Nat):Int)-1,xs,(k:Int))=some (.inl ((r:Int)-1,xs.set r ((k%n:Nat):Int),((k/n:Nat):Int))):=by
    unfold D8
    dsimp only
    rw [show (((r+1:Nat):Int)-1)=(r:Int) by omega,c1,c2]
    generalize k/n=kd at hd
    rw [if_pos (by omega),Af (by omega),Af (by omega),Af (by unfold InI;omega),Af (by unfold InI;omega),Int.toNat_natCast]
   rw [Fl step,ih _ _ (by rw [List.length_set];omega) (by rw [List.length_set];exact hl) (by omega)]
   congr 1
   simp only [Bi]
   rw [List.append_assoc]
   congr 1
   have e:(xs.set r ((k%n:Nat):Int)).drop r=((k%n:Nat):Int)::xs.drop (r+1):=by
    refine List.ext_getElem (by simp;omega) fun i h1 h2=> ?_
    rw [List.getElem_drop,List.getElem_set]
    cases i with
    | zero=>simp
    | succ i=>
      rw [if_neg (by omega),List.getElem_cons_succ,List.getElem_drop]
      congr 1;omega
   rw [e];rfl
def Dj (m:Nat) (xs:List Int):Int:=xs.foldl (fun s x=>s*(m:Int)+x) 0
theorem F0 (m:Nat) (xs:List Int) (y:Int):Dj m (xs++[y])=Dj m xs*(m:Int)+y:=by
 unfold Dj;rw [List.foldl_append];rfl
theorem Pj {m:Nat} : ∀(r:Nat) (xs:List Int),xs.length=r→Ba xs m → ∃c:Nat,Dj m xs=(c:Int)∧c<m^r:=by
 intro r
 induction r with
 | zero=>
   intro xs hl _
   have:xs=[]:=List.length_eq_zero_iff.1 hl
   subst this
   exact ⟨0,rfl,by simp⟩
 | succ r ih=>
   intro xs hl hx
   obtain ⟨ys,y,rfl⟩ : ∃ys y,xs=ys++[y]:=by
    refine ⟨xs.take r,nth xs r,?_⟩
    rw [←Cx (by omega),List.take_of_length_le (by omega)]
   have hy:=hx y (by simp)
   obtain ⟨c,h1,h2⟩:=ih ys (by simpa using hl) fun z hz=>hx z (by simp [hz])
   obtain ⟨d,rfl⟩:=Int.eq_ofNat_of_zero_le hy.1
   refine ⟨c*m+d,by rw [F0,h1];push_cast;rfl,?_⟩
   have h3:=Nat.mul_le_mul_right m (show c+1≤m^r from h2)
   rw [Nat.succ_mul] at h3
   rw [Nat.pow_succ]
   omega
theorem Aih {m:Nat} (hm:m≤8) {xs:List Int} (hl:xs.length≤3) (hx:Ba xs m) : ∃c:Nat,Dj m xs=(c:Int)∧c<m^xs.length∧c<512:=by
 obtain ⟨c,h1,h2⟩:=Pj xs.length xs rfl hx
 have:=Ahp hm hl
 exact ⟨c,h1,h2,by omega⟩
def Azs (n m:Nat) (f:List Int):Nat→Nat→Int
 | 0,_=>0
 | r+1,k=>Azs n m f r (k/n)*(m:Int)+nth f (k%n)
theorem Ax6 (n m:Nat) (f:List Int) : ∀r k,Dj m ((Bi n r k).map fun x=>nth f x.toNat)=Azs n m f r k:=by
 intro r
 induction r with
 | zero=>intro k;rfl
 | succ r ih=>
   intro k
   simp only [Bi,Azs,List.map_append,List.map_cons,List.map_nil,Int.toNat_natCast]
   rw [F0,ih]
theorem Avk {n m:Nat} (hn:0<n) {f:List Int} (hf:f.length=n) (hfx:Ba f m) (r k:Nat):Ba ((Bi n r k).map fun x=>nth f x.toNat) m:=by
 intro y hy
 obtain ⟨x,hx,rfl⟩:=List.mem_map.1 hy
 have:=Adw hn r k x hx
 exact hfx _ (Av (by omega))
structure Homs (a b:SAlgebra) (f:List Int) (n m:Nat):Prop where
 ga:Axr a
 gb:Axr b
 ty:Arm a=Arm b
 sa:a.Size=n
 sb:b.Size=m
 len:f.length=n
 fin:Ba f m
section
variable {a b:SAlgebra}
variable {f:List Int} {n m:Nat}
theorem Homs.ops (h:Homs a b f n m):a.Ops.length=b.Ops.length:=by
 have:=congrArg List.length h.ty
 simpa [Arm] using this
theorem Homs.op (h:Homs a b f n m) {i:Nat} (hi:i<a.Ops.length) : ∃r:Nat,r≤3∧(nth a.Ops i).Arity=r∧(nth b.Ops i).Arity=r∧(nth a.Ops i).Table.length=n^r∧(nth b.Ops i).Table.length=m^r∧Ba (nth a.Ops i).Table n∧n^r≤512:=by
 have hn:a.Size.toNat=n:=by have:=h.sa;omega
 have hm:b.Size.toNat=m:=by have:=h.sb;omega
 have hn8:n≤8:=by have:=h.sa;have:=h.ga.2.1;omega
 obtain ⟨h1,h2,h3,h4⟩:=h.ga.2.2.2 _ (Av hi)
 have hib:i<b.Ops.length:=by rw [←h.ops];exact hi
 obtain ⟨_,_,k3,_⟩:=h.gb.2.2.2 _ (Av hib)
 have e:(nth a.Ops i).Arity=(nth b.Ops i).Arity:=by
  have e1:nth (Arm a) i=(nth a.Ops i).Arity:=Qz _ hi
  have e2:nth (Arm b) i=(nth b.Ops i).Arity:=Qz _ hib
  rw [←e1,←e2,h.ty]
 rw [hn] at h3 h4
 rw [hm,←e] at k3
 exact ⟨(nth a.Ops i).Arity.toNat,by omega,by omega,by omega,h3,k3,h4,Ahp hn8 (by omega)⟩
theorem Homs.pos (h:Homs a b f n m):0<n∧n≤8∧0<m∧m≤8:=by
 have:=h.sa;have:=h.sb;have:=h.ga.1;have:=h.ga.2.1;have:=h.gb.1;have:=h.gb.2.1
 omega
theorem Homs.low (h:Homs a b f n m) {r k:Nat} (hr:r≤3) : ∃c:Nat,Azs n m f r k=(c:Int)∧c<m^r:=by
 obtain ⟨hn,_,_,hm⟩:=h.pos
 obtain ⟨c,h1,h2,_⟩:=Aih hm (xs:=(Bi n r k).map fun x=>nth f x.toNat) (by rw [List.length_map,G8];exact hr) (Avk hn h.len h.fin r k)
 rw [Ax6] at h1
 rw [List.length_map,G8] at h2
 exact ⟨c,h1,h2⟩
end
def uniq (f:List Int):Prop := ∀i,i<f.length→nth f i∉f.take i
end Go.Proofs.YtjcekpmojnnmbaaGreat.Ax
namespace Go.Proofs.YtjcekpmojnnmbaaGreat.Ax
open Go Classical
def A37 (p q:List Int) (i:Nat):List Int:=(List.range i).map fun x=>nth p x*(p.length:Int)+nth q x
end Go.Proofs.YtjcekpmojnnmbaaGreat.Ax
namespace Go.Proofs.YtjcekpmojnnmbaaGreat.Ax
open Go Classical
theorem Am5 {β:Type} (k:ByteArray) (v:β) (k':ByteArray) : ∀(l:List (ByteArray×β)),Fg (Lx l k v) k'=if k'=k then some v else Fg l k'
 | []=>by simp [Lx,Fg]
 | (a,b)::r=>by
   simp only [Lx]
   by_cases h1:k=a
   ·subst h1
    rw [if_pos rfl]
    simp only [Fg]
    by_cases h2:k'=k
    ·rw [if_pos h2,if_pos h2]
    ·rw [if_neg h2,if_neg h2,if_neg h2]
   ·rw [if_neg h1]
    simp only [Fg]
    rw [Am5 k v k' r]
    by_cases h2:k'=a
    ·rw [if_pos h2,if_pos h2,if_neg (fun e=>h1 (by rw [←e,h2]))]
    ·rw [if_neg h2,if_neg h2]
theorem Atg (ns:List Int) : ∀b:ByteArray,(ns.foldl (fun r n=>r.push (UInt8.ofNat n.toNat)) b).data.toList=b.data.toList++ns.map fun n=>UInt8.ofNat n.toNat:=by
 induction ns with
 | nil=>intro b;simp
 | cons n r ih=>
   intro b
   simp only [List.foldl_cons,List.map_cons]
   rw [ih]
   simp [ByteArray.push]
theorem Azd {a b:Int} (ha:0≤a∧a≤255) (hb:0≤b∧b≤255) (h:UInt8.ofNat a.toNat=UInt8.ofNat b.toNat):a=b:=by
 have:=congrArg UInt8.toNat h
 simp [UInt8.toNat_ofNat'] at this
 omega
theorem Awo {ns ms:List Int} (hn : ∀x∈ns,0≤x∧x≤255) (hm : ∀x∈ms,0≤x∧x≤255) (h:Wq ns=Wq ms):ns=ms:=by
 have e:=congrArg (fun b:ByteArray=>b.data.toList) h
 simp only [Wq,Atg] at e
 have e2:(ns.map fun n:Int=>UInt8.ofNat n.toNat)=ms.map fun n:Int=>UInt8.ofNat n.toNat:=by simpa using e
 clear e h
 induction ns generalizing ms with
 | nil=>
   cases ms with
   | nil=>rfl
   | cons _ _=>cases e2
 | cons a r ih=>
   cases ms with
   | nil=>cases e2
   | cons b s=>
     simp only [List.map_cons,List.cons.injEq] at e2
     rw [Azd (hn a (by simp)) (hm b (by simp)) e2.1,ih (fun x hx=>hn x (by simp [hx])) (fun x hx=>hm x (by simp [hx])) e2.2]
def byt (x:Int):List Int:=[IntKind.u8.wrap (x.fdiv (2^min (Int.toNat 8) IntKind.i64.bits)),IntKind.u8.wrap x]
theorem Ay7 (n:Int):IntKind.u8.wrap n=n%256:=by simp [IntKind.wrap,IntKind.bits,IntKind.signed]
theorem Axh {x:Int} (h0:0≤x) (h1:x<65536):byt x=[x/256,x%256]:=by
 unfold byt
 have e:(2:Int)^min (Int.toNat 8) IntKind.i64.bits=256:=by decide
 rw [e,Ay7,Ay7,Int.fdiv_eq_ediv_of_nonneg _ (by omega)]
 congr 1
 omega
theorem Ayf (x:Int) : ∀y∈byt x,0≤y∧y≤255:=by
 intro y hy
 unfold byt at hy
 simp only [List.mem_cons,List.not_mem_nil,or_false] at hy
 rcases hy with rfl | rfl<;>(rw [Ay7];omega)
def Awa (xs:List Int):ByteArray:=Wq (xs.flatMap byt)
theorem Ann : ∀ {xs ys:List Int},(∀x∈xs,0≤x∧x<65536)→(∀x∈ys,0≤x∧x<65536)→xs.flatMap byt=ys.flatMap byt→xs=ys:=by
 intro xs
 induction xs with
 | nil=>
   intro ys _ _ h
   cases ys with
   | nil=>rfl
   | cons y r=>simp [byt] at h
 | cons x r ih=>
   intro ys hx hy h
   cases ys with
   | nil=>simp [byt] at h
   | cons y s=>
     have h1:=hx x (by simp)
     have h2:=hy y (by simp)
     simp only [List.flatMap_cons,Axh h1.1 h1.2,Axh h2.1 h2.2,List.cons_append,List.nil_append,List.cons.injEq] at h
     rw [ih (fun z hz=>hx z (by simp [hz])) (fun z hz=>hy z (by simp [hz])) h.2.2,show x=y by omega]
theorem Aw6 {xs ys:List Int} (hx : ∀x∈xs,0≤x∧x<65536) (hy : ∀x∈ys,0≤x∧x<65536) (h:Awa xs=Awa ys):xs=ys:=by
 refine Ann hx hy (Awo ?_ ?_ h)
 ·intro y hy
  obtain ⟨x,_,hy⟩:=List.mem_flatMap.1 hy
  exact Ayf x y hy
 ·intro y hy
  obtain ⟨x,_,hy⟩:=List.mem_flatMap.1 hy
  exact Ayf x y hy
theorem Azi (xs:List Int):(xs.flatMap byt).length=2*xs.length:=by
 induction xs with
 | nil=>rfl
 | cons x r ih=>simp only [List.flatMap_cons,List.length_append,ih,List.length_cons];simp [byt];omega
theorem Auf {xs:List Int} (hl:xs.length≤1048576):Je xs=some (Awa xs):=by
 have hL:=Bd
 unfold Je
 rw [Af (by unfold InI;omega),Af (by omega)]
 have key:=Bk (body:=E2 xs) (fun i=>((i:Int),(xs.take i).flatMap byt)) xs.length (xs.flatMap byt) (fun i hi=>by
  have h1:=Azi (xs.take i)
  unfold E2
  dsimp only
  rw [if_pos (by omega),Af (by omega),Int.toNat_natCast,Af (by rw [h1,List.length_take];simp only [List.length_cons,List.length_nil];omega),Af (by unfold InI;omega),Cx hi,List.flatMap_append]
  simp [byt]) (by
  unfold E2
  dsimp only
  rw [if_neg (by omega),List.take_length])
 have key':Ao (E2 xs) (0,Au Int)=_:=key
 rw [key'];rfl
def Av1 (S:List (ByteArray×Bool)) (rows:List (List Int)):Prop := ∀k,(Fg S k).getD false=decide (∃t∈rows,Awa t=k)
theorem Aye:Av1 (Au (ByteArray×Bool)) []:=fun k=>by simp [Fg]
theorem Avw {S:List (ByteArray×Bool)} {rows:List (List Int)} (h:Av1 S rows) (t:List Int):Av1 (Lx S (Awa t) true) (rows++[t]):=by
 intro k
 rw [Am5]
 by_cases hk:k=Awa t
 ·rw [if_pos hk]
  exact (decide_eq_true ⟨t,by simp,hk.symm⟩).symm
 ·rw [if_neg hk,h k,decide_eq_decide]
  constructor
  ·rintro ⟨u,hu,e⟩;exact ⟨u,by simp [hu],e⟩
  ·rintro ⟨u,hu,e⟩
   rcases List.mem_append.1 hu with h1 | h1
   ·exact ⟨u,h1,e⟩
   ·rw [List.mem_singleton.1 h1] at e
    exact absurd e.symm hk
theorem Abk {r:SRelation} (hl:r.Tuples.length≤1048576) (hr : ∀t∈r.Tuples,t.length≤1048576) : ∃S,Hr r=some S∧Av1 S r.Tuples:=by
 unfold Hr
 obtain ⟨S,e,hS⟩:=D5 (body:=Fp r) (fun s => ∃i:Nat,s.1=(i:Int)∧i≤r.Tuples.length∧Av1 s.2 (r.Tuples.take i)) (fun s=>r.Tuples.length-s.1.toNat) (fun S=>Av1 S r.Tuples) (by
  rintro ⟨x,S⟩ ⟨i,rfl,g1,g2⟩
  dsimp only at g2
  unfold Fp
  dsimp only
  by_cases hi:i<r.Tuples.length
  ·rw [if_pos (by omega),Af (by omega),Int.toNat_natCast,Auf (hr _ (Av hi))]
   simp only [Option.bind_some]
   rw [Af (by unfold InI;omega)]
   refine .inl ⟨_,rfl,⟨i+1,rfl,by omega,?_⟩,by dsimp only;omega⟩
   dsimp only
   rw [Cx hi]
   exact Avw g2 _
  ·rw [if_neg (by omega)]
   have:i=r.Tuples.length:=by omega
   subst this
   rw [List.take_length] at g2
   exact .inr ⟨_,rfl,g2⟩) (s:=((0:Int),Au (ByteArray×Bool))) ⟨0,rfl,Nat.zero_le _,Aye⟩
 rw [e]
 exact ⟨S,rfl,hS⟩
theorem Aaq {n:Nat} (_hn:0<n) : ∀r k,k<n^r→Dj n (Bi n r k)=(k:Int):=by
 intro r
 induction r with
 | zero=>intro k hk;simp at hk;subst hk;rfl
 | succ r ih=>
   intro k hk
   have hd:k/n<n^r:=Nat.div_lt_of_lt_mul (by rw [Nat.mul_comm,←Nat.pow_succ];exact hk)
   simp only [Bi]
   rw [F0,ih _ hd,←Int.natCast_mul,←Int.natCast_add,Nat.mul_comm,Nat.div_add_mod]
theorem Ud {n:Nat} (hn:0<n) : ∀r (xs:List Int),xs.length=r→Ba xs n→Bi n r (Dj n xs).toNat=xs:=by
 intro r
 induction r with
 | zero=>intro xs hl _;rw [List.length_eq_zero_iff.1 hl];rfl
 | succ r ih=>
   intro xs hl hx
   obtain ⟨ys,y,rfl⟩ : ∃ys y,xs=ys++[y]:=⟨xs.take r,nth xs r,by rw [←Cx (by omega),List.take_of_length_le (by omega)]⟩
   have hy:=hx y (by simp)
   have hys:Ba ys n:=fun z hz=>hx z (by simp [hz])
   have hyl:ys.length=r:=by simpa using hl
   obtain ⟨c,h1,_⟩:=Pj r ys hyl hys
   obtain ⟨d,rfl⟩:=Int.eq_ofNat_of_zero_le hy.1
   have hd:d<n:=by omega
   have e:(Dj n (ys++[(d:Int)])).toNat=c*n+d:=by
    rw [F0,h1,←Int.natCast_mul,←Int.natCast_add,Int.toNat_natCast]
   rw [e]
   simp only [Bi]
   rw [show (c*n+d)/n=c by rw [Nat.mul_comm,Nat.mul_add_div hn,Nat.div_eq_of_lt hd];omega,show (c*n+d)%n=d by rw [Nat.mul_comm,Nat.mul_add_mod,Nat.mod_eq_of_lt hd]]
   have:=ih ys hyl hys
   rw [h1,Int.toNat_natCast] at this
   rw [this]
theorem Yo {n k:Nat} (B:Nat) (hB:B≤1000000) (h : ∀i,i≤k→n^i≤B) (hk:k≤1000):Ek n k=some ((n^k:Nat):Int):=by
 unfold Ek
 have key:=Bk (body:=Cg n) (fun j=>(((n^j:Nat):Int),((k:Int)-(j:Int)))) k ((n^k:Nat):Int) (fun j hj=>by
  unfold Cg
  dsimp only
  have hp:=h (j+1) (by omega)
  rw [Nat.pow_succ] at hp
  rw [if_pos (by omega),←Int.natCast_mul,Nat.pow_succ]
  generalize n^j*n=N at hp ⊢
  rw [Af (by unfold InI;omega),Af (by unfold InI;omega),show ((k:Int)-(j:Int)-1)=(k:Int)-((j+1:Nat):Int) by omega]) (by
  unfold Cg
  dsimp only
  rw [if_neg (by omega)])
 have key':Ao (Cg n) (1,(k:Int))=some ((n^k:Nat):Int):=by simpa using key
 rw [key'];rfl
theorem Ya {n k:Nat} (B:Nat) (hB:B≤1000000) (h : ∀i,i≤k→n^i≤B) (hk:k≤1000):Jl n k=some ((n^k:Nat):Int):=by
 unfold Jl
 have key:=Bk (body:=Ey n) (fun j=>(((n^j:Nat):Int),((k:Int)-(j:Int)))) k ((n^k:Nat):Int) (fun j hj=>by
  unfold Ey
  dsimp only
  have hp:=h (j+1) (by omega)
  rw [Nat.pow_succ] at hp
  rw [if_pos (by omega),←Int.natCast_mul,Nat.pow_succ]
  generalize n^j*n=N at hp ⊢
  rw [Af (by unfold InI;omega),Af (by unfold InI;omega),show ((k:Int)-(j:Int)-1)=(k:Int)-((j+1:Nat):Int) by omega]) (by
  unfold Ey
  dsimp only
  rw [if_neg (by omega)])
 have key':Ao (Ey n) (1,(k:Int))=some ((n^k:Nat):Int):=by simpa using key
 rw [key'];rfl
theorem Amq {n r k:Nat} (hn:0<n) (hn8:n≤8) (hr:r≤100) (hk:k≤1048576):Ki n r k=some (Bi n r k):=by
 unfold Ki
 rw [Af (by rw [Bd];omega),Af (by unfold InI;omega),Int.toNat_natCast,A0x hn hn8 r k _ (by simp) (by simp;omega) hk]
 simp
end Go.Proofs.YtjcekpmojnnmbaaGreat.Ax
namespace Go.Proofs.YtjcekpmojnnmbaaGreat.Ax
open Go Classical
theorem At2 : ∀ {xs ys:List Nat},xs.Pairwise (· < ·)→ys.Pairwise (· < ·)→(∀z,z∈xs↔z∈ys)→xs=ys
 | [],[],_,_,_=>rfl
 | [],y::_,_,_,h=>absurd ((h y).2 (by simp)) (by simp)
 | x::_,[],_,_,h=>absurd ((h x).1 (by simp)) (by simp)
 | x::xs,y::ys,hx,hy,h=>by
   rw [List.pairwise_cons] at hx hy
   have e:x=y:=by
    have h1:=(h x).1 (by simp)
    have h2:=(h y).2 (by simp)
    rcases List.mem_cons.1 h1 with h1 | h1
    ·exact h1
    ·rcases List.mem_cons.1 h2 with h2 | h2
     ·exact h2.symm
     ·have:=hx.1 y h2
      have:=hy.1 x h1
      omega
   subst e
   congr 1
   refine At2 hx.2 hy.2 fun z=> ?_
   have hz:=h z
   simp only [List.mem_cons] at hz
   constructor
   ·intro hm
    rcases hz.1 (.inr hm) with h1 | h1
    ·have:=hx.1 z hm;omega
    ·exact h1
   ·intro hm
    rcases hz.2 (.inr hm) with h1 | h1
    ·have:=hy.1 z hm;omega
    ·exact h1
theorem Ap7 {n:Nat} : ∀(r:Nat) (a b:List Int),a.length=r→b.length=r→Ba a n→Ba b n→(Mk a b↔Dj n a<Dj n b):=by
 have snoc : ∀(a:List Int) r,a.length=r+1 → ∃c y,a=c++[y]∧c.length=r:=fun a r h=>⟨a.take r,nth a r,by rw [←Cx (by omega),List.take_of_length_le (by omega)],by simp;omega⟩
 intro r
 induction r with
 | zero=>
   intro a b ha hb _ _
   rw [List.length_eq_zero_iff.1 ha,List.length_eq_zero_iff.1 hb]
   exact ⟨fun ⟨i,hi,_⟩=>absurd hi (by simp),fun h=>absurd h (Int.lt_irrefl _)⟩
 | succ r ih=>
   intro a b ha hb ia ib
   obtain ⟨c,x,rfl,hc⟩:=snoc a r ha
   obtain ⟨d,y,rfl,hd⟩:=snoc b r hb
   have ic:Ba c n:=fun z hz=>ia z (by simp [hz])
   have id:Ba d n:=fun z hz=>ib z (by simp [hz])
   have hx:=ia x (by simp)
   have hy:=ib y (by simp)
   have hI:=ih c d hc hd ic id
   obtain ⟨u,hu,_⟩:=Pj r c hc ic
   obtain ⟨v,hv,_⟩:=Pj r d hd id
   rw [F0,F0,hu,hv]
   rw [hu,hv] at hI
   have l1 : ∀(c:List Int) x i,i<c.length→nth (c++[x]) i=nth c i:=fun c x i hi=>by
    rw [Ea (by simp;omega),Ea hi,List.getElem_append_left hi]
   have l2 : ∀(c:List Int) x i,i=c.length→nth (c++[x]) i=x:=fun c x i hi=>by
    subst hi;rw [Ea (by simp)];simp
   constructor
   ·rintro ⟨i,hi,h1,h2⟩
    by_cases hir:i<r
    ·have hlt:Mk c d:=⟨i,by omega,fun j hj=>by have:=h1 j hj;rwa [l1 c x j (by omega),l1 d y j (by omega)] at this,by rwa [l1 c x i (by omega),l1 d y i (by omega)] at h2⟩
     have:=hI.1 hlt
     have:=Int.mul_le_mul_of_nonneg_right (show (u:Int)+1≤v by omega) (show (0:Int)≤n by omega)
     rw [Int.add_mul,Int.one_mul] at this
     omega
    ·have e:i=r:=by simp at hi;omega
     subst e
     rw [l2 c x i (by omega),l2 d y i (by omega)] at h2
     have ecd:c=d:=Pt (by omega) fun j hj=>by have:=h1 j (by omega);rwa [l1 c x j (by omega),l1 d y j (by omega)] at this
     have:(u:Int)=v:=by rw [←hu,←hv,ecd]
     rw [this];omega
   ·intro h
    rcases Int.lt_trichotomy (u:Int) v with hlt | heq | hgt
    ·obtain ⟨i,hi,h1,h2⟩:=hI.2 hlt
     exact ⟨i,by simp;omega,fun j hj=>by rw [l1 c x j (by omega),l1 d y j (by omega)];exact h1 j hj,by rw [l1 c x i (by omega),l1 d y i (by omega)];exact h2⟩
    ·have ecd:c=d:=by
      have hn:0<n:=by omega
      have e1:=Ud hn r c hc ic
      have e2:=Ud hn r d hd id
      rw [←e1,←e2,hu,hv,heq]
     subst ecd
     rw [heq] at h
     exact ⟨r,by simp;omega,fun j hj=>by rw [l1 c x j (by omega),l1 c y j (by omega)],by rw [l2 c x r (by omega),l2 c y r (by omega)];omega⟩
    ·have:=Int.mul_le_mul_of_nonneg_right (show (v:Int)+1≤u by omega) (show (0:Int)≤n by omega)
     rw [Int.add_mul,Int.one_mul] at this
     omega
def Q4 (n:Int) (a:Int) (T:List (List Int)) (i:Nat):Prop:=((nth T i).length:Int)=a∧Ba (nth T i) n∧(0<i→Mk (nth T (i-1)) (nth T i))
def Dq (n:Int) (r:SRelation):Prop:=1≤r.Arity∧r.Arity≤3 ∧ ∀i,i<r.Tuples.length→Q4 n r.Arity r.Tuples i
section
variable {n:Nat} {r:SRelation}
theorem Dq.row (h:Dq n r) {t:List Int} (ht:t∈r.Tuples):(t.length:Int)=r.Arity∧Ba t n:=by
 obtain ⟨i,hi,rfl⟩:=Hl.1 ht
 exact ⟨(h.2.2 i hi).1,(h.2.2 i hi).2.1⟩
theorem Dq.hornx (h:Dq n r) {i:Nat} (hi:i<r.Tuples.length) : ∃c:Nat,Dj n (nth r.Tuples i)=(c:Int)∧c<n^r.Arity.toNat:=by
 obtain ⟨h1,h2⟩:=h.row (Av hi)
 exact Pj r.Arity.toNat _ (by omega) h2
theorem Dq.mono (h:Dq n r) : ∀j,j<r.Tuples.length → ∀i,i<j→Dj n (nth r.Tuples i)<Dj n (nth r.Tuples j):=by
 intro j
 induction j with
 | zero=>intro _ i hi;omega
 | succ j ih=>
   intro hj i hi
   have hs:Dj n (nth r.Tuples j)<Dj n (nth r.Tuples (j+1)):=by
    obtain ⟨a1,a2⟩:=h.row (Av (show j<r.Tuples.length by omega))
    obtain ⟨b1,b2⟩:=h.row (Av hj)
    have:=(h.2.2 (j+1) hj).2.2 (by omega)
    rw [Nat.add_sub_cancel] at this
    exact (Ap7 r.Arity.toNat _ _ (by omega) (by omega) a2 b2).1 this
   rcases Nat.lt_or_ge i j with hij | hij
   ·exact Int.lt_trans (ih (by omega) i hij) hs
   ·have:i=j:=by omega
    subst this;exact hs
theorem Dq.len (h:Dq n r):r.Tuples.length≤n^r.Arity.toNat:=by
 have key : ∀i,i<r.Tuples.length→(i:Int)≤Dj n (nth r.Tuples i):=by
  intro i
  induction i with
  | zero=>intro hi;obtain ⟨c,hc,_⟩:=h.hornx hi;omega
  | succ i ih=>
    intro hi
    have h1:=ih (by omega)
    have h2:=h.mono (i+1) hi i (by omega)
    omega
 rcases Nat.eq_zero_or_pos r.Tuples.length with h0 | h0
 ·omega
 ·have h1:=key (r.Tuples.length-1) (by omega)
  obtain ⟨c,hc,hc2⟩:=h.hornx (show r.Tuples.length-1<r.Tuples.length by omega)
  omega
noncomputable def Av6 (n r:Nat) (q:Nat→Prop):List (List Int):=((List.range (n^r)).filter fun k=>decide (q k)).map (Bi n r)
theorem Ax5 {n r:Nat} {q:Nat→Prop} {t:List Int}:t∈Av6 n r q ↔ ∃k,k<n^r∧q k∧Bi n r k=t:=by
 simp [Av6,and_assoc]
theorem Dq.canon (h:Dq n r) (hn:0<n):r.Tuples=Av6 n r.Arity.toNat fun k=>Bi n r.Arity.toNat k∈r.Tuples:=by
 have e1:r.Tuples=(r.Tuples.map fun t=>(Dj n t).toNat).map (Bi n r.Arity.toNat):=by
  rw [List.map_map]
  refine Pt (by simp) fun i hi=> ?_
  obtain ⟨a1,a2⟩:=h.row (Av hi)
  rw [Qz _ hi]
  exact (Ud hn _ _ (by omega) a2).symm
 have e2:(r.Tuples.map fun t=>(Dj n t).toNat)=(List.range (n^r.Arity.toNat)).filter fun k=>decide (Bi n r.Arity.toNat k∈r.Tuples):=by
  refine At2 ?_ (List.Pairwise.filter _ List.pairwise_lt_range) fun z=> ?_
  ·rw [List.pairwise_iff_getElem]
   intro i j hi hj hij
   simp only [List.length_map] at hi hj
   simp only [List.getElem_map]
   have:=h.mono j hj i hij
   rw [Ea hi,Ea hj] at this
   have:=h.hornx hi
   rw [Ea hi] at this
   obtain ⟨c,hc,_⟩:=this
   omega
  ·simp only [List.mem_map,List.mem_filter,List.mem_range,decide_eq_true_eq]
   constructor
   ·rintro ⟨t,ht,rfl⟩
    obtain ⟨a1,a2⟩:=h.row ht
    obtain ⟨c,hc,hc2⟩:=Pj r.Arity.toNat t (by omega) a2
    rw [Ud hn _ t (by omega) a2]
    exact ⟨by omega,ht⟩
   ·rintro ⟨hz,hm⟩
    exact ⟨_,hm,by rw [Aaq hn _ _ hz];omega⟩
 unfold Av6
 refine e1.trans (congrArg _ (e2.trans ?_))
 congr 1
 funext k
 rw [decide_eq_decide]
end
section
variable {n:Nat} {r:SRelation} (hl:r.Tuples.length≤1048576) (hr : ∀t∈r.Tuples,t.length≤1048576)
include hl hr
theorem Z8:Ep n r=some (decide (Dq n r)):=by
 have hL:=Bd
 unfold Ep
 by_cases h1:r.Arity<1
 ·rw [if_pos h1,decide_eq_false (fun hh:Dq n r=>by have:=hh.1;omega)];rfl
 by_cases h3:r.Arity>3
 ·rw [if_neg h1,if_pos h3,decide_eq_false (fun hh:Dq n r=>by have:=hh.2.1;omega)];rfl
 rw [if_neg h1,if_neg h3]
 simp only [Option.bind_some]
 obtain ⟨t,e,ht⟩:=D5 (body:=El n r) (fun s => ∃i:Nat,s=(i:Int)∧i≤r.Tuples.length ∧ ∀j,j<i→Q4 n r.Arity r.Tuples j) (fun s=>r.Tuples.length-s.toNat) (fun t=>t=if (∀i,i<r.Tuples.length→Q4 n r.Arity r.Tuples i) then .inr () else .inl ()) (by
  rintro s ⟨i,rfl,g1,g2⟩
  unfold El
  by_cases hi:i<r.Tuples.length
  ·rw [if_pos (by omega),Af (by omega),Int.toNat_natCast]
   have bad:¬Q4 n r.Arity r.Tuples i→(Sum.inl ():Unit ⊕ Unit)=if (∀i,i<r.Tuples.length→Q4 n r.Arity r.Tuples i) then .inr () else .inl ():=fun hb=>by
    rw [if_neg (fun hh=>hb (hh i hi))]
   have good:Q4 n r.Arity r.Tuples i → ∀j,j<i+1→Q4 n r.Arity r.Tuples j:=fun hg j hj=>by
    rcases Nat.lt_or_ge j i with hji | hji
    ·exact g2 j hji
    ·have:j=i:=by omega
     subst this;exact hg
   by_cases c1:((nth r.Tuples i).length:Int)=r.Arity
   ·rw [if_neg (by simpa using c1),Ahw _ _ (by have:=hr _ (Av hi);omega)]
    simp only [Option.bind_some]
    by_cases c2:Ba (nth r.Tuples i) n
    ·rw [decide_eq_true c2,if_pos rfl]
     by_cases c0:i=0
     ·subst c0
      rw [if_neg (by omega),Af (by unfold InI;omega)]
      exact .inl ⟨_,rfl,⟨1,rfl,hi,good ⟨c1,c2,fun hh=>absurd hh (by omega)⟩⟩,by omega⟩
     ·have g3:=g2 (i-1) (by omega)
      obtain ⟨c,ec,hc⟩:=Yc (a:=nth r.Tuples (i-1)) (b:=nth r.Tuples i) (by have:=g3.1;omega) (by have:=hr _ (Av (show i-1<r.Tuples.length by omega));omega)
      rw [if_pos (by omega),Af (by unfold InI;omega),Af (by omega),show ((i:Int)-1).toNat=i-1 by omega,ec]
      simp only [Option.bind_some]
      by_cases c3:c≥0
      ·rw [if_pos c3]
       exact .inr ⟨_,rfl,bad fun hh=>hc.2 (hh.2.2 (by omega)) c3⟩
      ·rw [if_neg c3,Af (by unfold InI;omega)]
       exact .inl ⟨_,rfl,⟨i+1,rfl,by omega,good ⟨c1,c2,fun _=>hc.1 c3⟩⟩,by omega⟩
    ·rw [decide_eq_false c2,if_neg Bool.false_ne_true]
     exact .inr ⟨_,rfl,bad fun hh=>c2 hh.2.1⟩
   ·rw [if_pos (by simpa using c1)]
    exact .inr ⟨_,rfl,bad fun hh=>c1 hh.1⟩
  ·rw [if_neg (by omega)]
   exact .inr ⟨_,rfl,by rw [if_pos (fun j hj=>g2 j (by omega))]⟩) (s:=(0:Int)) ⟨0,rfl,Nat.zero_le _,fun j hj=>by omega⟩
 rw [e,ht]
 simp only [Option.bind_some]
 by_cases hall : ∀i,i<r.Tuples.length→Q4 n r.Arity r.Tuples i
 ·rw [if_pos hall,decide_eq_true (show Dq n r from ⟨by omega,by omega,hall⟩)]
 ·rw [if_neg hall,decide_eq_false (fun hh:Dq n r=>hall hh.2.2)]
theorem Amo (h8:n≤8):G7 n r=some (decide (Dq n r)):=by
 have hL:=Bd
 unfold G7
 rw [Aa2]
 simp only [Option.bind_some]
 by_cases h13:1≤r.Arity∧r.Arity≤3
 ·rw [decide_eq_true h13,if_pos rfl]
  obtain ⟨a,ha⟩:=Int.eq_ofNat_of_zero_le (show 0≤r.Arity by omega)
  have e0:=Ya (n:=n) (k:=a) 512 (by omega) (fun i hi=>Nat.le_trans (Nat.pow_le_pow_left h8 i) (Nat.le_trans (Nat.pow_le_pow_right (by omega) (show i≤3 by omega)) (by decide))) (by omega)
  rw [ha,e0]
  simp only [Option.bind_some]
  by_cases hlen:(r.Tuples.length:Int)>((n^a:Nat):Int)
  ·rw [if_pos hlen,decide_eq_false (fun hh:Dq n r=>by
    have:=hh.len
    rw [ha,Int.toNat_natCast] at this
    omega)]
   rfl
  ·rw [if_neg hlen]
   simp only [Option.bind_some]
   obtain ⟨t,e,ht⟩:=D5 (body:=Gc n r) (fun s => ∃i:Nat,s=(i:Int)∧i≤r.Tuples.length ∧ ∀j,j<i→Q4 n r.Arity r.Tuples j) (fun s=>r.Tuples.length-s.toNat) (fun t=>t=if (∀i,i<r.Tuples.length→Q4 n r.Arity r.Tuples i) then .inr () else .inl ()) (by
    rintro s ⟨i,rfl,g1,g2⟩
    unfold Gc L0
    by_cases hi:i<r.Tuples.length
    ·rw [if_pos (by omega),Af (by omega),Int.toNat_natCast]
     have bad:¬Q4 n r.Arity r.Tuples i→(Sum.inl ():Unit ⊕ Unit)=if (∀i,i<r.Tuples.length→Q4 n r.Arity r.Tuples i) then .inr () else .inl ():=fun hb=>by
      rw [if_neg (fun hh=>hb (hh i hi))]
     have good:Q4 n r.Arity r.Tuples i → ∀j,j<i+1→Q4 n r.Arity r.Tuples j:=fun hg j hj=>by
      rcases Nat.lt_or_ge j i with hji | hji
      ·exact g2 j hji
      ·have:j=i:=by omega
       subst this;exact hg
     by_cases c1:((nth r.Tuples i).length:Int)=r.Arity
     ·rw [if_pos c1,Abx _ _ (by have:=hr _ (Av hi);omega) (by omega)]
      simp only [Option.bind_some]
      by_cases c2:Ba (nth r.Tuples i) n
      ·rw [decide_eq_true c2,if_pos rfl]
       by_cases c0:i=0
       ·subst c0
        rw [if_neg (by omega),Af (by unfold InI;omega)]
        exact .inl ⟨_,rfl,⟨1,rfl,hi,good ⟨c1,c2,fun hh=>absurd hh (by omega)⟩⟩,by omega⟩
       ·have g3:=g2 (i-1) (by omega)
        have ec:=Aea (a:=nth r.Tuples (i-1)) (b:=nth r.Tuples i) (by have:=g3.1;omega) (by have:=hr _ (Av (show i-1<r.Tuples.length by omega));omega)
        rw [if_pos (by omega),Af (by unfold InI;omega),Af (by omega),Af (by omega),show ((i:Int)-1).toNat=i-1 by omega,ec]
        simp only [Option.bind_some]
        by_cases c3:Mk (nth r.Tuples (i-1)) (nth r.Tuples i)
        ·rw [decide_eq_true c3,if_pos rfl,Af (by unfold InI;omega)]
         exact .inl ⟨_,rfl,⟨i+1,rfl,by omega,good ⟨c1,c2,fun _=>c3⟩⟩,by omega⟩
        ·rw [decide_eq_false c3,if_neg Bool.false_ne_true]
         exact .inr ⟨_,rfl,bad fun hh=>c3 (hh.2.2 (by omega))⟩
      ·rw [decide_eq_false c2,if_neg Bool.false_ne_true]
       exact .inr ⟨_,rfl,bad fun hh=>c2 hh.2.1⟩
     ·rw [if_neg c1]
      simp only [Option.bind_some]
      rw [if_neg Bool.false_ne_true]
      exact .inr ⟨_,rfl,bad fun hh=>c1 hh.1⟩
    ·rw [if_neg (by omega)]
     exact .inr ⟨_,rfl,by rw [if_pos (fun j hj=>g2 j (by omega))]⟩) (s:=(0:Int)) ⟨0,rfl,Nat.zero_le _,fun j hj=>by omega⟩
   rw [e,ht]
   simp only [Option.bind_some]
   by_cases hall : ∀i,i<r.Tuples.length→Q4 n r.Arity r.Tuples i
   ·rw [if_pos hall,decide_eq_true (show Dq n r from ⟨h13.1,h13.2,hall⟩)]
   ·rw [if_neg hall,decide_eq_false (fun hh:Dq n r=>hall hh.2.2)]
 ·rw [decide_eq_false h13,if_neg Bool.false_ne_true,decide_eq_false (fun hh:Dq n r=>h13 ⟨hh.1,hh.2.1⟩)]
  rfl
end
section
variable {n:Nat} {r:SRelation}
theorem Ay0 (h:Dq n r) (hl:r.Tuples.length≤1048576) (_h8:n≤8) {t:List Int} (ht:(t.length:Int)=r.Arity) (hin:Ba t n) : ∃k:Int,C9 r.Tuples t=some (k,decide (t∈r.Tuples)):=by
 have hL:=Bd
 have h3:=h.2.1
 have lh : ∀j,j<r.Tuples.length→(Mk (nth r.Tuples j) t↔Dj n (nth r.Tuples j)<Dj n t):=fun j hj=>by
  obtain ⟨a1,a2⟩:=h.row (Av hj)
  exact Ap7 r.Arity.toNat _ _ (by omega) (by omega) a2 hin
 unfold C9
 obtain ⟨k,e,k0,k1,kl,kh⟩:=D5 (body:=D9 r.Tuples t) (fun s=>0≤s.2∧s.2≤s.1∧s.1≤r.Tuples.length∧(∀j:Nat,(j:Int)<s.2→Dj n (nth r.Tuples j)<Dj n t) ∧ ∀j:Nat,s.1≤(j:Int)→j<r.Tuples.length→¬Dj n (nth r.Tuples j)<Dj n t) (fun s=>(s.1-s.2).toNat) (fun k=>0≤k∧k≤r.Tuples.length∧(∀j:Nat,(j:Int)<k→Dj n (nth r.Tuples j)<Dj n t) ∧ ∀j:Nat,k≤(j:Int)→j<r.Tuples.length→¬Dj n (nth r.Tuples j)<Dj n t) (by
  rintro ⟨tz,fr⟩ ⟨g0,g1,g2,g3,g4⟩
  dsimp only at g0 g1 g2 g3 g4
  unfold D9
  dsimp only
  by_cases hlt:fr<tz
  ·have e2:(fr+tz).tdiv 2=(fr+tz)/2:=Int.tdiv_eq_ediv_of_nonneg (by omega)
   rw [if_pos hlt,e2,Af (by unfold InI;omega),Af ⟨by decide,by unfold InI;omega⟩,Af (by omega)]
   obtain ⟨m,hm⟩:=Int.eq_ofNat_of_zero_le (show 0≤(fr+tz)/2 by omega)
   rw [hm,Int.toNat_natCast]
   have hml:m<r.Tuples.length:=by omega
   obtain ⟨a1,a2⟩:=h.row (Av hml)
   have ec:=Aea (a:=nth r.Tuples m) (b:=t) (by omega) (by omega)
   rw [ec]
   simp only [Option.bind_some]
   by_cases c:Mk (nth r.Tuples m) t
   ·rw [decide_eq_true c,if_pos rfl,Af (by unfold InI;omega)]
    have c':=(lh m hml).1 c
    refine .inl ⟨_,rfl,⟨by dsimp only;omega,by dsimp only;omega,g2,fun j hj=> ?_,g4⟩,by dsimp only;omega⟩
    dsimp only at hj
    rcases Nat.lt_or_ge j m with hjm | hjm
    ·exact Int.lt_trans (h.mono m hml j hjm) c'
    ·have:j=m:=by omega
     subst this;exact c'
   ·rw [decide_eq_false c,if_neg Bool.false_ne_true]
    have c':¬Dj n (nth r.Tuples m)<Dj n t:=fun hh=>c ((lh m hml).2 hh)
    refine .inl ⟨_,rfl,⟨g0,by dsimp only;omega,by dsimp only;omega,g3,fun j hj hjl=> ?_⟩,by dsimp only;omega⟩
    dsimp only at hj
    rcases Nat.lt_or_ge m j with hjm | hjm
    ·have:=h.mono j hjl m hjm
     omega
    ·have:j=m:=by omega
     subst this;exact c'
  ·rw [if_neg hlt]
   have:fr=tz:=by omega
   subst this
   exact .inr ⟨_,rfl,g0,g2,g3,g4⟩) (s:=((r.Tuples.length:Int),(0:Int))) ⟨Int.le_refl _,by dsimp only;omega,Int.le_refl _,fun j hj=>by dsimp only at hj;omega,fun j hj hjl=>by dsimp only at hj;omega⟩
 rw [e]
 simp only [Option.bind_some]
 obtain ⟨m,rfl⟩:=Int.eq_ofNat_of_zero_le k0
 have hmem:t∈r.Tuples→m<r.Tuples.length∧nth r.Tuples m=t:=fun hm=>by
  obtain ⟨j,hj,rfl⟩:=Hl.1 hm
  have h1:¬(j:Int)<(m:Int):=fun hh=>absurd (kl j hh) (Int.lt_irrefl _)
  have h2:¬m<j:=fun hh=>kh m (Int.le_refl _) (by omega) (h.mono j hj m hh)
  have:j=m:=by omega
  subst this
  exact ⟨hj,rfl⟩
 by_cases hm:m<r.Tuples.length
 ·obtain ⟨a1,a2⟩:=h.row (Av hm)
  rw [if_pos (by omega),Af (by omega),Int.toNat_natCast,Ap8 (by omega)]
  simp only [Option.bind_some]
  refine ⟨_,congrArg some (Prod.ext rfl ?_)⟩
  dsimp only
  rw [decide_eq_decide]
  exact ⟨fun hh=>hh▸Av hm,fun hh=>(hmem hh).2⟩
 ·rw [if_neg (by omega),decide_eq_false (fun hh=>hm (hmem hh).1)]
  exact ⟨_,rfl⟩
theorem Ap6 (h:Dq n r) (hl:r.Tuples.length≤1048576) (h8:n≤8) {t:List Int} (ht:(t.length:Int)=r.Arity) (hin:Ba t n):Hv r t=some (decide (t∈r.Tuples)):=by
 unfold Hv
 obtain ⟨k,e⟩:=Ay0 h hl h8 ht hin
 rw [if_neg (by simpa using ht),e]
 rfl
end
end Go.Proofs.YtjcekpmojnnmbaaGreat.Ax
namespace Go.Proofs.YtjcekpmojnnmbaaGreat.Ax
open Go Classical
structure Perm (f:List Int) (n:Nat):Prop where
 len:f.length=n
 fin:Ba f n
 un:uniq f
theorem Perm.count {f:List Int} {n:Nat} (h:Perm f n) : ∀i,i≤n→(Qd n fun z=>decide ((z:Int)∈f.take i)).length=i:=by
 intro i
 induction i with
 | zero=>
   intro _
   rw [List.length_eq_zero_iff]
   exact Awm.2 fun z _=>by simp
 | succ i ih=>
   intro hi
   have hil:i<f.length:=by rw [h.len];exact hi
   have hv:=h.fin _ (Av hil)
   have hu:=h.un i hil
   have hc:nth f i=(((nth f i).toNat:Nat):Int):=by omega
   have:=Avp (q:=fun z=>decide ((z:Int)∈f.take i)) (q':=fun z=>decide ((z:Int)∈f.take (i+1))) (x:=(nth f i).toNat) (decide_eq_false (by rw [←hc];exact hu)) (fun z=>by
    rw [Cx hil,Bool.eq_iff_iff]
    simp only [decide_eq_true_eq,List.mem_append,List.mem_singleton,Bool.or_eq_true]
    constructor
    ·rintro (h1 | h1)
     ·exact .inl h1
     ·exact .inr (by omega)
    ·rintro (h1 | h1)
     ·exact .inl h1
     ·exact .inr (by omega)) n
   rw [this,ih (by omega),if_pos (by omega)]
end Go.Proofs.YtjcekpmojnnmbaaGreat.Ax
namespace Go.Proofs.YtjcekpmojnnmbaaGreat.Ax
open Go Classical
def Wd (f g:List Int):List Int:=f.map fun x=>nth g x.toNat
theorem Awj {f g:List Int} (hl:f.length≤LIM) (hx:Ba f g.length):Iw f g=some (Wd f g):=by
 have hL:=Bd
 unfold Iw
 rw [Af (by omega),Int.toNat_natCast]
 have key:=Bk (body:=Ds f g) (fun i=>((i:Int),(Wd f g).take i++List.replicate (f.length-i) 0)) f.length (Wd f g) (fun i hi=>by
  unfold Ds
  dsimp only
  have hv:=hx _ (Av hi)
  have hcl:(Wd f g).length=f.length:=by simp [Wd]
  rw [if_pos (by omega),Af (by omega),Int.toNat_natCast,Af (by omega),Af (by simp;omega),Af (by unfold InI;omega),Cx (by omega),show f.length-i=(f.length-(i+1))+1 by omega,List.replicate_succ]
  have e:nth (Wd f g) i=nth g (nth f i).toNat:=Qz _ hi
  rw [e]
  congr 3
  have h1:((Wd f g).take i).length=i:=by simp;omega
  rw [List.set_append,if_neg (by omega),h1,Nat.sub_self,List.set_cons_zero,List.append_assoc]
  rfl) (by
  unfold Ds
  dsimp only
  rw [if_neg (by omega),Nat.sub_self,List.take_of_length_le (by simp [Wd])]
  simp)
 have key':Ao (Ds f g) (0,List.replicate f.length 0)=some (Wd f g):=by simpa using key
 rw [key'];rfl
end Go.Proofs.YtjcekpmojnnmbaaGreat.Ax
namespace Go.Proofs.YtjcekpmojnnmbaaGreat.Ax
open Go Classical
noncomputable def Aqe (p:List Int):List (List Int):=Av6 p.length 2 fun k=>nth p (k/p.length)=nth p (k%p.length)
noncomputable def Awr (q:Nat→Prop) (k:Nat):List Nat:=(List.range k).filter fun k=>decide (q k)
theorem Auz (q:Nat→Prop) (k:Nat):Awr q (k+1)=if q k then Awr q k++[k] else Awr q k:=by
 unfold Awr
 rw [List.range_succ,List.filter_append]
 by_cases h:q k
 ·simp [h]
 ·simp [h]
noncomputable def T8 (p:List Int) (k:Nat):List (List Int):=(Awr (fun k=>nth p (k/p.length)=nth p (k%p.length)) k).map (Bi p.length 2)
theorem Aht {n x y:Nat} (hx:x<n) (hy:y<n):Bi n 2 (x*n+y)=[(x:Int),(y:Int)]:=by
 have e1:(x*n+y)/n=x:=by rw [Nat.mul_comm,Nat.mul_add_div (by omega),Nat.div_eq_of_lt hy];omega
 have e2:(x*n+y)%n=y:=by rw [Nat.mul_comm,Nat.mul_add_mod,Nat.mod_eq_of_lt hy]
 simp only [Bi,e1,e2,Nat.mod_eq_of_lt hx]
 rfl
theorem Asw {p:List Int} {x y:Nat} (hx:x<p.length) (hy:y<p.length):T8 p (x*p.length+(y+1))=if nth p x=nth p y then T8 p (x*p.length+y)++[[(x:Int),(y:Int)]] else T8 p (x*p.length+y):=by
 have e1:(x*p.length+y)/p.length=x:=by rw [Nat.mul_comm,Nat.mul_add_div (by omega),Nat.div_eq_of_lt hy];omega
 have e2:(x*p.length+y)%p.length=y:=by rw [Nat.mul_comm,Nat.mul_add_mod,Nat.mod_eq_of_lt hy]
 unfold T8
 rw [←Nat.add_assoc,Auz]
 simp only [e1,e2]
 by_cases h:nth p x=nth p y
 ·rw [if_pos h,if_pos h,List.map_append,List.map_cons,List.map_nil,Aht hx hy]
 ·rw [if_neg h,if_neg h]
theorem Ams (p:List Int) (k:Nat):(T8 p k).length≤k:=by
 unfold T8 Awr
 rw [List.length_map]
 exact Nat.le_trans (List.length_filter_le _ _) (by simp)
theorem Aee {p:List Int} (hp:p.length≤9):C7 p=some { Arity:=2,Tuples:=Aqe p }:=by
 have hL:=Bd
 unfold C7
 have inner : ∀x,x<p.length→Ao (Bz p (x:Int)) (0,{ Arity:=2,Tuples:=T8 p (x*p.length) })=some { Arity:=2,Tuples:=T8 p ((x+1)*p.length) }:=by
  intro x hx
  have hb:x*p.length≤81:=Nat.le_trans (Nat.mul_le_mul (show x≤9 by omega) hp) (by decide)
  have key:=Bk (body:=Bz p (x:Int)) (fun y=>((y:Int),({ Arity:=2,Tuples:=T8 p (x*p.length+y) }:SRelation))) p.length { Arity:=2,Tuples:=T8 p ((x+1)*p.length) } (fun y hy=>by
   have hl:=Ams p (x*p.length+y)
   have hs:=Asw hx hy
   unfold Bz
   dsimp only
   rw [if_pos (by omega),Af (by omega),Af (by omega),Int.toNat_natCast,Int.toNat_natCast]
   by_cases h:nth p x=nth p y
   ·rw [if_pos h] at hs
    rw [if_pos h,Af (by simp only [List.length_cons,List.length_nil];omega),Af (by unfold InI;omega),←hs]
    rfl
   ·rw [if_neg h] at hs
    rw [if_neg h,Af (by unfold InI;omega),←hs]
    rfl) (by
   unfold Bz
   dsimp only
   rw [if_neg (by omega),Nat.succ_mul])
  exact key
 have key:=Bk (body:=B5 p) (fun x=>((x:Int),({ Arity:=2,Tuples:=T8 p (x*p.length) }:SRelation))) p.length { Arity:=2,Tuples:=Aqe p } (fun x hx=>by
  unfold B5
  dsimp only
  rw [if_pos (by omega),inner x hx]
  simp only [Option.bind_some]
  rw [Af (by unfold InI;omega)]
  rfl) (by
  unfold B5
  dsimp only
  rw [if_neg (by omega)]
  rw [show p.length*p.length=p.length^2 by rw [Nat.pow_succ,Nat.pow_one]]
  rfl)
 have key':Ao (B5 p) (0,{ Arity:=2,Tuples:=Au (List Int) })=some { Arity:=2,Tuples:=Aqe p }:=by
  have e0:T8 p (0*p.length)=Au (List Int):=by rw [Nat.zero_mul];rfl
  rw [←e0];exact key
 rw [key'];rfl
end Go.Proofs.YtjcekpmojnnmbaaGreat.Ax
namespace Go.Proofs.YtjcekpmojnnmbaaGreat.Ax
open Go Classical
end Go.Proofs.YtjcekpmojnnmbaaGreat.Ax
namespace Go.Proofs.YtjcekpmojnnmbaaGreat.Ax
open Go Classical
theorem Aig {body:Int→Option (Int ⊕ (Unit ⊕ Unit))} (n:Nat) (good:Nat→Prop) {P:Prop} [Decidable P] [DecidablePred good] (hP:P ↔ ∀i,i<n→good i) (h : ∀i,i<n→body (i:Int)=if good i then some (.inl ((i+1:Nat):Int)) else some (.inr (.inl ()))) (he:body (n:Int)=some (.inr (.inr ()))) :
  Ao body 0=some (if P then .inr () else .inl ()):=by
 have key:=M1 (body:=body) (fun i=>(i:Int)) n (fun i=>¬good i) () () (fun i hi hb=>by rw [h i hi,if_pos (Classical.not_not.1 hb)]) (fun i hi hb=>by rw [h i hi,if_neg hb]) he 0 (Nat.zero_le _)
 have key':Ao body 0=_:=key
 rw [key']
 by_cases ha:P
 ·rw [if_pos ha,if_neg (Ty.2 (hP.1 ha))]
 ·rw [if_neg ha,if_pos (Classical.byContradiction fun hh=>ha (hP.2 (Ty.1 hh)))]
end Go.Proofs.YtjcekpmojnnmbaaGreat.Ax
namespace Go.Proofs.YtjcekpmojnnmbaaGreat.Ax
open Go Classical
def hT (n r:Nat) (y:Nat→Int):Int:=Dj n ((List.range r).map y)
theorem A0y (n r:Nat) (y:Nat→Int):hT n (r+1) y=hT n r y*(n:Int)+y r:=by
 unfold hT;rw [List.range_succ,List.map_append];exact F0 _ _ _
theorem Aw0 {n r:Nat} {y z:Nat→Int} (h : ∀i,i<r→y i=z i):hT n r y=hT n r z:=by
 unfold hT
 congr 1
 exact List.map_congr_left fun i hi=>h i (List.mem_range.1 hi)
theorem A3t {n r:Nat} {y:Nat→Int} (h : ∀i,i<r→0≤y i∧y i<n):Ba ((List.range r).map y) n:=by
 intro v hv
 obtain ⟨i,hi,rfl⟩:=List.mem_map.1 hv
 exact h i (List.mem_range.1 hi)
theorem Ab4 {n r:Nat} {y:Nat→Int} (hn:n≤8) (hr:r≤3) (h : ∀i,i<r→0≤y i∧y i<n) : ∃c:Nat,hT n r y=(c:Int)∧c<n^r∧c<512:=by
 obtain ⟨c,h1,h2,h3⟩:=Aih hn (xs:=(List.range r).map y) (by simpa using hr) (A3t h)
 exact ⟨c,h1,by simpa using h2,h3⟩
theorem Auj {body:(Int×Int)→Option ((Int×Int) ⊕ Int)} (n r:Nat) (y:Nat→Int) (hb : ∀i,i<r→body ((i:Int),hT n i y)=some (.inl (((i+1:Nat):Int),hT n i y*(n:Int)+y i))) (he : ∀q,body ((r:Int),q)=some (.inr q)) :
  Ao body (0,0)=some (hT n r y):=by
 have key:=Bk (body:=body) (fun i=>((i:Int),hT n i y)) r (hT n r y) (fun i hi=>by rw [hb i hi,A0y]) (he _)
 exact key
structure OpR (n r:Nat) (f:SOp):Prop where
 ar:f.Arity=r
 le:r≤2
 len:f.Table.length=n^r
 fin:Ba f.Table n
theorem OpR.at {n r:Nat} {f:SOp} (h:OpR n r f) (hn:n≤8) {y:Nat→Int} (hy : ∀i,i<r→0≤y i∧y i<n):(∃c:Nat,hT n r y=(c:Int)∧c<f.Table.length∧c<512)∧0≤nth f.Table (hT n r y).toNat∧nth f.Table (hT n r y).toNat<n:=by
 obtain ⟨c,h1,h2,h3⟩:=Ab4 hn (by have:=h.le;omega) hy
 rw [←h.len] at h2
 exact ⟨⟨c,h1,h2,h3⟩,by rw [h1,Int.toNat_natCast];exact h.fin _ (Av h2)⟩
def Aqg (n:Int) (f g:SOp):Prop:=1≤n∧n≤4∧As7 n.toNat f∧As7 n.toNat g∧f.Arity≤2∧g.Arity≤2
theorem Aqg.symm {n:Int} {f g:SOp} (h:Aqg n f g):Aqg n g f:=⟨h.1,h.2.1,h.2.2.2.1,h.2.2.1,h.2.2.2.2.2,h.2.2.2.2.1⟩
theorem Aqg.ops {n:Int} {f g:SOp} (h:Aqg n f g):OpR n.toNat f.Arity.toNat f∧OpR n.toNat g.Arity.toNat g:=by
 obtain ⟨h1,h2,h3,h4,h5,h6⟩:=h
 obtain ⟨a1,a2,a3,a4⟩:=h3
 obtain ⟨b1,b2,b3,b4⟩:=h4
 exact ⟨⟨by omega,by omega,a3,a4⟩,⟨by omega,by omega,b3,b4⟩⟩
end Go.Proofs.YtjcekpmojnnmbaaGreat.Ax
namespace Go.Proofs.YtjcekpmojnnmbaaGreat.Ax
open Go Classical
end Go.Proofs.YtjcekpmojnnmbaaGreat.Ax
namespace Go.Proofs.YtjcekpmojnnmbaaGreat.Ax
open Go Classical
end Go.Proofs.YtjcekpmojnnmbaaGreat.Ax
namespace Go.Proofs.YtjcekpmojnnmbaaGreat.Ax
open Go Classical
end Go.Proofs.YtjcekpmojnnmbaaGreat.Ax
namespace Go.Proofs.YtjcekpmojnnmbaaGreat.Ax
open Go Classical
end Go.Proofs.YtjcekpmojnnmbaaGreat.Ax
namespace Go.Proofs.YtjcekpmojnnmbaaGreat.Ax
open Go Classical
end Go.Proofs.YtjcekpmojnnmbaaGreat.Ax
namespace Go.Proofs.YtjcekpmojnnmbaaGreat.Ax
open Go Classical
theorem Azv (A xs:List Int) (j:Nat) (hA:A.length=j) (hj:j<xs.length) (v:Int):(A++xs.drop j).set j v=(A++[v])++xs.drop (j+1):=by
 rw [List.set_append,if_neg (by omega),hA,Nat.sub_self,List.drop_eq_getElem_cons hj,List.set_cons_zero]
 simp
end Go.Proofs.YtjcekpmojnnmbaaGreat.Ax
namespace Go.Proofs.YtjcekpmojnnmbaaGreat.Ax
open Go Classical
def leP (q p:List Int):Prop:=q.length=p.length ∧ ∀i,i<p.length→nth q i≤nth p i
theorem leP.refl (p:List Int):leP p p:=⟨rfl,fun _ _=>Int.le_refl _⟩
theorem leP.trans {a b c:List Int} (h:leP a b) (h':leP b c):leP a c:=⟨h.1.trans h'.1,fun i hi=>Int.le_trans (h.2 i (by rw [h'.1];exact hi)) (h'.2 i hi)⟩
theorem leP.anti {a b:List Int} (h:leP a b) (h':leP b a):a=b:=Pt h.1 fun i hi=>Int.le_antisymm (h.2 i (by rw [←h.1];exact hi)) (h'.2 i hi)
def okP (n:Nat) (q:List Int):Prop:=q.length=n∧Ba q n
def Rel (n:Nat) (s t:Bool×Bool×List Int) (D:Prop):Prop:=
 okP n t.2.2∧leP t.2.2 s.2.2∧((t=s∧D)∨(t.2.2≠s.2.2∧t.1=true∧t.2.1=true∧¬D))
theorem Rel.congr {n:Nat} {s t:Bool×Bool×List Int} {D E:Prop} (h:Rel n s t D) (e:D↔E):Rel n s t E:=by
 rw [←propext e];exact h
theorem Au5 (i n:Nat):((i/n:Nat):Int)*(n:Int)+((i%n:Nat):Int)=(i:Int):=by
 rw [←Int.natCast_mul,←Int.natCast_add,Nat.mul_comm,Nat.div_add_mod]
theorem A0i {n r i:Nat} (hi:i<n^(r+1)):i/n<n^r:=by
 rw [Nat.pow_succ,Nat.mul_comm] at hi
 exact Nat.div_lt_of_lt_mul hi
theorem Aw9 {n:Nat} : ∀r i,i<n^r→Dj n (Bi n r i)=(i:Int):=by
 intro r
 induction r with
 | zero => intro i hi;have:i=0:=by simpa using hi
           subst this;rfl
 | succ r ih=>
   intro i hi
   simp only [Bi]
   rw [F0,ih _ (A0i hi),Au5]
end Go.Proofs.YtjcekpmojnnmbaaGreat.Ax
namespace Go.Proofs.YtjcekpmojnnmbaaGreat.Ax
open Go Classical
structure OpQ (n r:Nat) (f:SOp):Prop where
 ar:f.Arity=r
 le:r≤3
 len:f.Table.length=n^r
 fin:Ba f.Table n
theorem OpQ.at {n r:Nat} {f:SOp} (h:OpQ n r f) (hn:n≤8) {y:Nat→Int} (hy : ∀i,i<r→0≤y i∧y i<n):(∃c:Nat,hT n r y=(c:Int)∧c<f.Table.length∧c<512)∧0≤nth f.Table (hT n r y).toNat∧nth f.Table (hT n r y).toNat<n:=by
 obtain ⟨c,h1,h2,h3⟩:=Ab4 hn (by have:=h.le;omega) hy
 rw [←h.len] at h2
 exact ⟨⟨c,h1,h2,h3⟩,by rw [h1,Int.toNat_natCast];exact h.fin _ (Av h2)⟩
end Go.Proofs.YtjcekpmojnnmbaaGreat.Ax
namespace Go.Proofs.YtjcekpmojnnmbaaGreat.Ax
open Go Classical
def Gb (T:List (List Int)) (n w:Nat) (f:SOp) (r k:Nat):List Int:=(List.range w).map fun j=>nth f.Table (hT n r fun i=>nth (nth T (nth (Bi T.length r k) i).toNat) j).toNat
def Kl (T:List (List Int)) (n w:Nat) (f:SOp) (r:Nat):Prop := ∀k,k<T.length^r→Gb T n w f r k∈T
theorem Yv (T:List (List Int)) (n w:Nat) (f:SOp) (r k:Nat):(Gb T n w f r k).length=w:=by simp [Gb]
theorem A3o {f:SOp} {R:SRelation} {S:List (ByteArray×Bool)} {N a:Int} {b:List Int} {M:Nat} (hM:R.Tuples.length=M) (h0:0<M) (h9:M≤1000) : ∀(r k:Nat) (xs:List Int),r≤xs.length→xs.length≤1000→k≤1048576 →
  Ao (Cs N f R S a b) ((r:Int)-1,(k:Int),xs)=some (Bi M r k++xs.drop r):=by
 intro r
 induction r with
 | zero=>
   intro k xs _ _ _
   refine E1 ?_
   unfold Cs
   dsimp only
   rw [if_neg (by omega)]
   simp [Bi]
 | succ r ih=>
   intro k xs hr hl hk
   have c1:(k:Int).tdiv (M:Int)=((k/M:Nat):Int):=rfl
   have c2:(k:Int).tmod (M:Int)=((k%M:Nat):Int):=rfl
   have hd:k/M≤k:=Nat.div_le_self k M
   have step:Cs N f R S a b (((r+1:Nat):Int)-1,(k:Int),xs)=some (.inl ((r:Int)-1,((k/M:Nat):Int),xs.set r ((k%M:Nat):Int))):=by
    unfold Cs
    dsimp only
    rw [hM,show (((r+1:Nat):Int)-1)=(r:Int) by omega,c1,c2]
    generalize k/M=kd at hd
    rw [if_pos (by omega),Af (by omega),Af (by omega),Af (by unfold InI;omega),Af (by unfold InI;omega),Int.toNat_natCast]
   rw [Fl step,ih _ _ (by rw [List.length_set];omega) (by rw [List.length_set];exact hl) (by omega)]
   congr 1
   simp only [Bi]
   rw [List.append_assoc]
   congr 1
   have e:(xs.set r ((k%M:Nat):Int)).drop r=((k%M:Nat):Int)::xs.drop (r+1):=by
    refine List.ext_getElem (by simp;omega) fun i h1 h2=> ?_
    rw [List.getElem_drop,List.getElem_set]
    cases i with
    | zero=>simp
    | succ i=>
      rw [if_neg (by omega),List.getElem_cons_succ,List.getElem_drop]
      congr 1;omega
   rw [e];rfl
section
variable {n r w:Nat} {f:SOp} {R:SRelation}
theorem A3z {M:Nat} (hM:0<M) {k i:Nat} (hi:i<r) : ∃a:Nat,nth (Bi M r k) i=(a:Int)∧a<M:=by
 have:=Adw hM r k _ (Av (show i<(Bi M r k).length by rw [G8];exact hi))
 exact ⟨(nth (Bi M r k) i).toNat,by omega,by omega⟩
theorem A30 (hT0:0<R.Tuples.length) (hrow : ∀t∈R.Tuples,t.length=w∧Ba t n) {k i j:Nat} (hi:i<r) (hj:j<w):0≤nth (nth R.Tuples (nth (Bi R.Tuples.length r k) i).toNat) j∧nth (nth R.Tuples (nth (Bi R.Tuples.length r k) i).toNat) j<n:=by
 obtain ⟨b,e,hb⟩:=A3z hT0 (k:=k) hi
 rw [e,Int.toNat_natCast]
 obtain ⟨a1,a2⟩:=hrow _ (Av hb)
 exact a2 _ (Av (by omega))
theorem A3w (h8:n≤8) (hf:OpQ n r f) (hT0:0<R.Tuples.length) (_hM:R.Tuples.length≤1000) (_hw:R.Arity=w) (hw3:w≤3) (hrow : ∀t∈R.Tuples,t.length=w∧Ba t n) {S:List (ByteArray×Bool)} {a:Int} {k:Nat} {xs:List Int} (hx:xs.length=w) :
  Ao (Cc n f R S a xs (Bi R.Tuples.length r k)) (0,xs)=some (Gb R.Tuples n w f r k):=by
 have hr2:=hf.le
 have hal:=G8 R.Tuples.length r k
 have hrl:=Yv R.Tuples n w f r k
 have key:=Bk (body:=Cc n f R S a xs (Bi R.Tuples.length r k)) (fun j=>((j:Int),(Gb R.Tuples n w f r k).take j++xs.drop j)) w (Gb R.Tuples n w f r k) (fun j hj=>by
  have hrw : ∀i,i<r→(∃b:Nat,nth (Bi R.Tuples.length r k) i=(b:Int)∧b<R.Tuples.length)∧(nth R.Tuples (nth (Bi R.Tuples.length r k) i).toNat).length=w∧0≤nth (nth R.Tuples (nth (Bi R.Tuples.length r k) i).toNat) j∧nth (nth R.Tuples (nth (Bi R.Tuples.length r k) i).toNat) j<n:=by
   intro i hi
   obtain ⟨b,e,hb⟩:=A3z hT0 (k:=k) hi
   exact ⟨⟨b,e,hb⟩,by rw [e,Int.toNat_natCast];exact (hrow _ (Av hb)).1,A30 hT0 hrow hi hj⟩
  obtain ⟨⟨d,d1,d2,_⟩,d4⟩:=hf.at h8 (fun i hi=>(hrw i hi).2.2)
  have l2 : ∀b,Ao (Dk n f R S a xs (Bi R.Tuples.length r k) (j:Int) b) (0,0)=some (hT n r fun i=>nth (nth R.Tuples (nth (Bi R.Tuples.length r k) i).toNat) j):=fun b=>by
   refine Auj n r _ (fun i hi=> ?_) fun q=>by unfold Dk;dsimp only;rw [if_neg (by omega)]
   obtain ⟨⟨b,b1,b2⟩,b3,b4⟩:=hrw i hi
   obtain ⟨c,c1,_,c3⟩:=Ab4 (n:=n) (r:=i) (y:=fun i=>nth (nth R.Tuples (nth (Bi R.Tuples.length r k) i).toNat) j) h8 (by omega) (fun i' hi'=>(hrw i' (by omega)).2.2)
   have q5:(c:Int)*(n:Int)=((c*n:Nat):Int):=by push_cast;rfl
   have q6:c*n≤512*8:=Nat.mul_le_mul (by omega) h8
   unfold Dk
   dsimp only
   rw [if_pos (by omega),Af (by omega),Int.toNat_natCast,c1,q5,Af (by unfold InI;omega),Af (by omega),Int.toNat_natCast,Af (by omega),Af (by unfold InI;omega),Af (by unfold InI;omega)]
   rfl
  unfold Cc
  dsimp only
  rw [if_pos (by omega),l2]
  simp only [Option.bind_some]
  rw [d1] at d4
  rw [d1,Af (by omega),Af (by simp;omega),Af (by unfold InI;omega),Int.toNat_natCast,Azv _ _ _ (by simp;omega) (by omega),Cx (by omega)]
  have e:nth (Gb R.Tuples n w f r k) j=nth f.Table ((d:Int)).toNat:=by
   unfold Gb
   rw [Ea (by simp;omega)]
   simp only [List.getElem_map,List.getElem_range]
   rw [d1]
  rw [e]
  rfl) (by
  unfold Cc
  dsimp only
  rw [if_neg (by omega),List.take_of_length_le (by omega),List.drop_of_length_le (by omega),List.append_nil])
 have key':Ao (Cc n f R S a xs (Bi R.Tuples.length r k)) (0,xs)=some (Gb R.Tuples n w f r k):=by simpa using key
 exact key'
theorem Z7 (h1:1≤n) (h8:n≤8) (hf:OpQ n r f) (hT0:0<R.Tuples.length) (hM:R.Tuples.length≤64) (hw:R.Arity=w) (hw3:w≤3) (hrow : ∀t∈R.Tuples,t.length=w∧Ba t n) : ∃a b,Bv n f R=some (a,b,decide (¬Kl R.Tuples n w f r)):=by
 have hL:=Bd
 have hr2:=hf.le
 have hp81 : ∀i,i≤r→R.Tuples.length^i≤262144:=fun i hi=>Nat.le_trans (Nat.pow_le_pow_left hM i) (Nat.le_trans (Nat.pow_le_pow_right (by omega) (show i≤3 by omega)) (by decide))
 have hpr:=hp81 r (Nat.le_refl _)
 obtain ⟨S,e,hS⟩:=Abk (r:=R) (by omega) (fun t ht=>by rw [(hrow t ht).1];omega)
 unfold Bv
 rw [e]
 simp only [Option.bind_some]
 rw [hf.ar,hw,Af (by omega),Af (by omega)]
 have body : ∀k,k<R.Tuples.length^r → ∀X Y:List Int,X.length=w→Y.length=r→Bb n f R S ((k:Int),X,Y) =
   if Gb R.Tuples n w f r k∈R.Tuples then some (.inl (((k+1:Nat):Int),Gb R.Tuples n w f r k,Bi R.Tuples.length r k)) else some (.inr (.inl (Gb R.Tuples n w f r k,Bi R.Tuples.length r k))):=by
  intro k hk X Y hX hY
  have hr1 : ∀v∈Gb R.Tuples n w f r k,0≤v∧v<65536:=by
   intro v hv
   obtain ⟨j,hj,rfl⟩:=List.mem_map.1 hv
   have hj:=List.mem_range.1 hj
   have:=(hf.at h8 (fun i hi=>A30 hT0 hrow (k:=k) hi hj)).2
   omega
  have hr2 : ∀t∈R.Tuples,∀v∈t,0≤v∧v<65536:=by
   intro t ht v hv
   have:=(hrow t ht).2 v hv
   omega
  unfold Bb
  dsimp only
  rw [hf.ar,Yo 262144 (by omega) hp81 (by omega)]
  simp only [Option.bind_some]
  rw [if_pos (by omega),Af (by unfold InI;omega),A3o (M:=R.Tuples.length) rfl hT0 (by omega) r k Y (by omega) (by omega) (by omega)]
  simp only [Option.bind_some]
  rw [List.drop_of_length_le (by omega),List.append_nil,A3w h8 hf hT0 (by omega) hw hw3 hrow hX]
  simp only [Option.bind_some]
  rw [Auf (by rw [Yv];omega)]
  simp only [Option.bind_some]
  rw [hS]
  by_cases hm:Gb R.Tuples n w f r k∈R.Tuples
  ·rw [decide_eq_true ⟨_,hm,rfl⟩,if_pos rfl,if_pos hm,Af (by unfold InI;omega)]
   rfl
  ·rw [decide_eq_false (by
    rintro ⟨t,ht,he⟩
    rw [Aw6 (hr2 t ht) hr1 he] at ht
    exact hm ht),if_neg Bool.false_ne_true,if_neg hm]
 obtain ⟨X,hX0,hXs⟩ : ∃X:Nat→List Int,X 0=List.replicate w 0 ∧ ∀k,X (k+1)=Gb R.Tuples n w f r k:=⟨fun k=>match k with | 0=>List.replicate w 0 | k+1=>Gb R.Tuples n w f r k,rfl,fun _=>rfl⟩
 obtain ⟨Y,hY0,hYs⟩ : ∃Y:Nat→List Int,Y 0=List.replicate r 0 ∧ ∀k,Y (k+1)=Bi R.Tuples.length r k:=⟨fun k=>match k with | 0=>List.replicate r 0 | k+1=>Bi R.Tuples.length r k,rfl,fun _=>rfl⟩
 have hXl : ∀k,(X k).length=w:=fun k=>by
  cases k with
  | zero=>rw [hX0];simp
  | succ k=>rw [hXs];exact Yv _ _ _ _ _ k
 have hYl : ∀k,(Y k).length=r:=fun k=>by
  cases k with
  | zero=>rw [hY0];simp
  | succ k=>rw [hYs];exact G8 _ _ _
 have hpick:=Afe (body:=Bb n f R S) (fun k=>((k:Int),X k,Y k)) (R.Tuples.length^r) (fun k=>Gb R.Tuples n w f r k∉R.Tuples) (fun k=> .inl (Gb R.Tuples n w f r k,Bi R.Tuples.length r k)) (.inr ()) (fun k hk hh=>by
   rw [body k hk _ _ (hXl k) (hYl k),if_pos (Classical.not_not.1 hh),hXs,hYs]) (fun k hk hh=>by
   rw [body k hk _ _ (hXl k) (hYl k),if_neg hh]) (by
   unfold Bb
   dsimp only
   rw [hf.ar,Yo 262144 (by omega) hp81 (by omega)]
   simp only [Option.bind_some]
   rw [if_neg (by omega)])
 rw [hX0,hY0] at hpick
 rw [Int.toNat_natCast,Int.toNat_natCast]
 rcases hpick with ⟨k,hk,hh,_,e2⟩ | ⟨hno,e2⟩
 ·have e2':Ao (Bb n f R S) (0,List.replicate w 0,List.replicate r 0)=_:=e2
  rw [e2',decide_eq_true (show ¬Kl R.Tuples n w f r from fun hc=>hh (hc k hk))]
  exact ⟨_,_,rfl⟩
 ·have e2':Ao (Bb n f R S) (0,List.replicate w 0,List.replicate r 0)=_:=e2
  rw [e2',decide_eq_false (show ¬ ¬Kl R.Tuples n w f r from fun hc=>hc (fun k hk=>Classical.not_not.1 (hno k hk)))]
  exact ⟨_,_,rfl⟩
end
end Go.Proofs.YtjcekpmojnnmbaaGreat.Ax
namespace Go.Proofs.YtjcekpmojnnmbaaGreat.Ax
open Go Classical
end Go.Proofs.YtjcekpmojnnmbaaGreat.Ax
namespace Go.Proofs.YtjcekpmojnnmbaaGreat.Ax
open Go Classical
theorem Ape (a:List Int):¬Mk a a:=fun ⟨i,_,_,h⟩=>by omega
theorem Apr {a b c:List Int} (hab:a.length=b.length) (h1:Mk a b) (h2:Mk b c):Mk a c:=by
 obtain ⟨i,hi,e1,l1⟩:=h1
 obtain ⟨k,hk,e2,l2⟩:=h2
 rcases Nat.lt_trichotomy i k with h | h | h
 ·exact ⟨i,hi,fun j hj=>(e1 j hj).trans (e2 j (by omega)),by rw [←e2 i h];exact l1⟩
 ·subst h;exact ⟨i,hi,fun j hj=>(e1 j hj).trans (e2 j hj),by omega⟩
 ·exact ⟨k,by omega,fun j hj=>(e1 j (by omega)).trans (e2 j hj),by rw [e1 k h];exact l2⟩
theorem Avd {a b:List Int} (hab:a.length=b.length):Mk a b∨a=b∨Mk b a:=by
 by_cases h : ∃i,i<a.length∧nth a i≠nth b i
 ·obtain ⟨i,⟨hi,hne⟩,hmin⟩ : ∃i,(i<a.length∧nth a i≠nth b i) ∧ ∀j,j<i→¬(j<a.length∧nth a j≠nth b j):=by
   obtain ⟨k,hk⟩:=h
   induction k using Nat.strongRecOn with
   | ind k ih=>
     by_cases hx : ∃j,j<k∧(j<a.length∧nth a j≠nth b j)
     ·obtain ⟨j,h1,h2⟩:=hx;exact ih j h1 h2
     ·exact ⟨k,hk,fun j hj hc=>hx ⟨j,hj,hc⟩⟩
  have heq : ∀j,j<i→nth a j=nth b j:=fun j hj=>Classical.byContradiction fun hc=>hmin j hj ⟨by omega,hc⟩
  by_cases hl:nth a i<nth b i
  ·exact .inl ⟨i,hi,heq,hl⟩
  ·exact .inr (.inr ⟨i,by omega,fun j hj=>(heq j hj).symm,by omega⟩)
 ·exact .inr (.inl (Pt hab fun i hi=>Classical.byContradiction fun hc=>h ⟨i,hi,hc⟩))
def tLt (a b:List Int):Prop:=a.length<b.length∨(a.length=b.length∧Mk a b)
theorem Vi (a:List Int):¬tLt a a:=fun h=>h.elim (fun h=>by omega) fun h=>Ape a h.2
theorem Yw {a b c:List Int} (h1:tLt a b) (h2:tLt b c):tLt a c:=by
 rcases h1 with h1 | ⟨e1,l1⟩
 ·rcases h2 with h2 | ⟨e2,_⟩
  ·exact .inl (by omega)
  ·exact .inl (by omega)
 ·rcases h2 with h2 | ⟨e2,l2⟩
  ·exact .inl (by omega)
  ·exact .inr ⟨by omega,Apr e1 l1 l2⟩
theorem Ahm (a b:List Int):tLt a b∨a=b∨tLt b a:=by
 rcases Nat.lt_trichotomy a.length b.length with h | h | h
 ·exact .inl (.inl h)
 ·rcases Avd h with h1 | h1 | h1
  ·exact .inl (.inr ⟨h,h1⟩)
  ·exact .inr (.inl h1)
  ·exact .inr (.inr (.inr ⟨h.symm,h1⟩))
 ·exact .inr (.inr (.inl h))
noncomputable def ltT (a b:List Int):Bool:=decide (tLt a b)
theorem Avh:Go.Sort.SWO ltT where
 irrefl x:=decide_eq_false (Vi x)
 trans x y z h1 h2:=decide_eq_true (Yw (of_decide_eq_true h1) (of_decide_eq_true h2))
 ntrans x y z h1 h2:=by
  have h1:=of_decide_eq_false h1
  have h2:=of_decide_eq_false h2
  refine decide_eq_false fun h=> ?_
  rcases Ahm x y with c | c | c
  ·exact h1 c
  ·subst c;exact h2 h
  ·rcases Ahm y z with c2 | c2 | c2
   ·exact h2 c2
   ·subst c2;exact h1 h
   ·exact Vi _ (Yw (Yw h c2) c)
theorem A0b (x y:List Int) (h1:ltT x y=false) (h2:ltT y x=false):x=y:=by
 rcases Ahm x y with c | c | c
 ·exact absurd c (of_decide_eq_false h1)
 ·exact c
 ·exact absurd c (of_decide_eq_false h2)
def A1v (xs:List (List Int)):Prop:=xs.Pairwise fun a b=>¬tLt b a
def Ve (S:Nat→Bool):Nat→Nat
 | 0=>0
 | n+1=>if S n then 2^n+Ve S n else Ve S n
theorem Y6 (S:Nat→Bool) : ∀n,Ve S n<2^n
 | 0=>by simp [Ve]
 | n+1=>by
   have:=Y6 S n
   simp only [Ve,Nat.pow_succ]
   split<;>omega
theorem Ajp (S:Nat→Bool) : ∀n i,i<n→Az8 (Ve S n) i=S i
 | 0,_,h=>by omega
 | n+1,i,h=>by
   have hl:=Y6 S n
   rw [Ahs]
   simp only [Ve]
   by_cases e:i=n
   ·subst e
    cases hS:S i with
    | true=>rw [if_pos rfl,Nat.testBit_two_pow_add_eq,Nat.testBit_lt_two_pow hl];rfl
    | false=>rw [if_neg (by simp),Nat.testBit_lt_two_pow hl]
   ·have ih:=Ajp S n i (by omega)
    rw [Ahs] at ih
    cases hS:S n with
    | true=>rw [if_pos rfl,Nat.testBit_two_pow_add_gt (by omega),ih]
    | false=>rw [if_neg (by simp),ih]
end Go.Proofs.YtjcekpmojnnmbaaGreat.Ax
namespace Go.Proofs.YtjcekpmojnnmbaaGreat.Ax
open Go Classical
def Ayd:List Int→List Int→Bool
 | x::xs,y::ys=>decide (x<y) || (decide (x=y)&&Ayd xs ys)
 | _,_=>false
def A2k (a b:List Int):Bool:=decide (a.length<b.length) || (decide (a.length=b.length)&&Ayd a b)
def Aw (a M:Nat):List Nat:=(List.range (2^a)).filter (Nat.testBit M)
def kp2 (op:Nat→Nat→Nat) (a M:Nat):Bool:=let l:=Aw a M;l.all fun x=>l.all fun y=>Nat.testBit M (op x y)
def kp3 (op:Nat→Nat→Nat→Nat) (a M:Nat):Bool:=let l:=Aw a M;l.all fun x=>l.all fun y=>l.all fun z=>Nat.testBit M (op x y z)
def A3u (x y z:Nat):Nat:=Nat.lor (Nat.lor (Nat.land x y) (Nat.land x z)) (Nat.land y z)
def C0 (a M:Nat):List (List Int):=(Aw a M).map (Bi 2 a)
theorem Aev {a M k:Nat}:k∈Aw a M↔k<2^a∧M.testBit k=true:=by simp [Aw]
theorem Asc {a:Nat} {r:SRelation} (hr:Dq (2:Nat) r) (ha:r.Arity=(a:Int)) : ∃M,M<2^2^a∧r.Tuples=C0 a M:=by
 refine ⟨Ve (fun k=>decide (Bi 2 a k∈r.Tuples)) (2^a),Y6 _ _,?_⟩
 have e:=hr.canon (by omega)
 rw [ha,Int.toNat_natCast] at e
 refine e.trans ?_
 unfold Av6 C0 Aw
 congr 1
 refine List.filter_congr fun k hk=> ?_
 have hk:=List.mem_range.1 hk
 rw [←Ahs,Ajp _ _ _ hk]
 exact decide_eq_decide.2 Iff.rfl
end Go.Proofs.YtjcekpmojnnmbaaGreat.Ax
namespace Go.Proofs.YtjcekpmojnnmbaaGreat.Ax
open Go Classical
theorem Ayj {xs:List Int} (h:xs.length≤LIM):Jn xs=some xs:=by
 unfold Jn
 rw [Af (by show 0+xs.length≤_;omega)];rfl
theorem Ar2 {x y:Int} {xs ys:List Int}:Mk (x::xs) (y::ys)↔x<y∨(x=y∧Mk xs ys):=by
 constructor
 ·rintro ⟨i,hi,h1,h2⟩
  cases i with
  | zero=>exact .inl h2
  | succ i=>exact .inr ⟨h1 0 (by omega),i,by simpa using hi,fun j hj=>h1 (j+1) (by omega),h2⟩
 ·rintro (h | ⟨rfl,i,hi,h1,h2⟩)
  ·exact ⟨0,by simp,fun j hj=>by omega,h⟩
  ·refine ⟨i+1,by simpa using hi,fun j hj=> ?_,h2⟩
   cases j with
   | zero=>rfl
   | succ j=>exact h1 j (by omega)
theorem Akj : ∀ {a b:List Int},a.length=b.length→(Ayd a b=true↔Mk a b)
 | [],[],_=>by
   simp only [Ayd,Bool.false_eq_true,false_iff]
   rintro ⟨i,hi,_⟩
   simp at hi
 | [],_::_,h=>by simp at h
 | _::_,[],h=>by simp at h
 | x::xs,y::ys,h=>by
   rw [Ar2,←Akj (a:=xs) (b:=ys) (by simpa using h)]
   simp [Ayd]
theorem Azg {a b:List Int}:A2k a b=true↔tLt a b:=by
 unfold A2k tLt
 rw [Bool.or_eq_true,Bool.and_eq_true,decide_eq_true_eq,decide_eq_true_eq]
 constructor
 ·rintro (h | ⟨h1,h2⟩)
  ·exact .inl h
  ·exact .inr ⟨h1,(Akj h1).1 h2⟩
 ·rintro (h | ⟨h1,h2⟩)
  ·exact .inl h
  ·exact .inr ⟨h1,(Akj h1).2 h2⟩
end Go.Proofs.YtjcekpmojnnmbaaGreat.Ax
namespace Go.Proofs.YtjcekpmojnnmbaaGreat.Ax
open Go Classical
end Go.Proofs.YtjcekpmojnnmbaaGreat.Ax
namespace Go.Proofs.YtjcekpmojnnmbaaGreat.Ax
open Go
def Cur (k:Nat) (c:Sl1Cur):Prop:=(∀x∈c.code,0≤x∧x≤255)∧c.code.length≤65536∧0≤c.at_∧c.at_≤k
theorem Cur.mono {k l:Nat} {c:Sl1Cur} (h:Cur k c) (hl:k≤l):Cur l c:=⟨h.1,h.2.1,h.2.2.1,by have:=h.2.2.2;omega⟩
theorem Ayx {n:Int} (h0:0≤n) (h1:n≤255):IntKind.u64.wrap n=n:=by
 simp [IntKind.wrap,IntKind.bits,IntKind.signed]
 omega
theorem Aml {c:Sl1Cur} {k:Nat} (h:Cur k c) (hk:k≤1000000000) : ∃r d,Em c=some (r,d)∧Cur (k+1) d∧0≤r∧r≤255:=by
 obtain ⟨h1,h2,h3,h4⟩:=h
 unfold Em
 have fin : ∀q:Int,0≤q→q≤255 → ∃r d,(ask (InI (c.at_+1)) <|
   if c.at_+1≤(c.code.length:Int) then
    some (q,({ code:=c.code,at_:=c.at_+1,seed:=IntKind.u64.wrap (IntKind.u64.wrap (IntKind.u64.wrap (c.seed*6364136223846793005)+IntKind.u64.wrap q)+550289) }:Sl1Cur))
   else some (IntKind.i64.wrap (IntKind.u64.wrap (((BitVec.ofInt IntKind.u64.bits ((IntKind.u64.wrap (IntKind.u64.wrap (IntKind.u64.wrap (c.seed*6364136223846793005)+IntKind.u64.wrap q)+550289)).fdiv (2^min (Int.toNat 40) IntKind.u64.bits)) &&& BitVec.ofInt IntKind.u64.bits 255).toNat:Nat):Int)),
    ({ code:=c.code,at_:=c.at_+1,seed:=IntKind.u64.wrap (IntKind.u64.wrap (IntKind.u64.wrap (c.seed*6364136223846793005)+IntKind.u64.wrap q)+550289) }:Sl1Cur)))=some (r,d)∧Cur (k+1) d∧0≤r∧r≤255:=by
  intro q hq0 hq1
  rw [Af (by unfold InI;omega)]
  split
  ·exact ⟨_,_,rfl,⟨h1,h2,by show 0≤c.at_+1;omega,by show c.at_+1≤((k+1:Nat):Int);omega⟩,hq0,hq1⟩
  ·refine ⟨_,_,rfl,⟨h1,h2,by show 0≤c.at_+1;omega,by show c.at_+1≤((k+1:Nat):Int);omega⟩,?_⟩
   generalize BitVec.ofInt IntKind.u64.bits ((IntKind.u64.wrap (IntKind.u64.wrap (IntKind.u64.wrap (c.seed*6364136223846793005)+IntKind.u64.wrap q)+550289)).fdiv (2^min (Int.toNat 40) IntKind.u64.bits))=b
   have hb:(b &&& BitVec.ofInt IntKind.u64.bits 255).toNat≤255:=by
    rw [BitVec.toNat_and]
    have:(BitVec.ofInt IntKind.u64.bits 255).toNat=255:=by decide
    rw [this]
    exact Nat.and_le_right
   generalize (b &&& BitVec.ofInt IntKind.u64.bits 255).toNat=z at hb
   rw [Ayx (by omega) (by omega),Y8 (by omega) (by omega)]
   omega
 by_cases hc:c.at_<(c.code.length:Int)
 ·rw [if_pos hc,Af ⟨h3,hc⟩]
  have hm:=h1 _ (Av (xs:=c.code) (i:=c.at_.toNat) (by omega))
  rw [Y8 (by omega) (by omega)]
  simp only [Option.bind_some]
  exact fin _ hm.1 hm.2
 ·rw [if_neg hc]
  simp only [Option.bind_some]
  exact fin 0 (by omega) (by omega)
theorem Li {c:Sl1Cur} {k:Nat} (h:Cur k c) (hk:k≤900000000) (n:Int) : ∃r d,Bn c n=some (r,d)∧Cur (k+2) d∧0≤r∧(r<n∨(n≤1∧r=0)):=by
 unfold Bn
 by_cases h1:n≤1
 ·rw [if_pos h1];exact ⟨0,c,rfl,h.mono (by omega),by omega,.inr ⟨h1,rfl⟩⟩
 ·rw [if_neg h1]
  obtain ⟨r,d,e,hd,a1,a2⟩:=Aml h (by omega)
  simp only [e,Option.bind_some]
  by_cases h2:n>200
  ·rw [if_pos h2,Af (by unfold InI;omega)]
   obtain ⟨r2,d2,e2,hd2,b1,b2⟩:=Aml hd (by omega)
   simp only [e2,Option.bind_some]
   rw [Af (by unfold InI;omega),Af (by omega)]
   refine ⟨_,_,rfl,hd2,Int.tmod_nonneg _ (by omega),.inl ?_⟩
   exact Int.tmod_lt_of_pos _ (by omega)
  ·rw [if_neg h2,Af (by omega)]
   refine ⟨_,_,rfl,hd.mono (by omega),Int.tmod_nonneg _ (by omega),.inl ?_⟩
   exact Int.tmod_lt_of_pos _ (by omega)
theorem Aqh {c:Sl1Cur} {k:Nat} (h:Cur k c) (hk:k≤900000000) (n:Int) : ∃b d,Dn c n=some (b,d)∧Cur (k+2) d:=by
 unfold Dn
 obtain ⟨r,d,e,hd,_,_⟩:=Li h hk n
 simp only [e,Option.bind_some]
 exact ⟨_,_,rfl,hd⟩
theorem It {c:Sl1Cur} {k:Nat} (h:Cur k c) (hk:k≤900000000) (l:List Int) (h0:0<l.length) : ∃r d,Bj c l=some (r,d)∧Cur (k+2) d∧r∈l:=by
 unfold Bj
 obtain ⟨r,d,e,hd,a1,a2⟩:=Li h hk (l.length:Int)
 simp only [e,Option.bind_some]
 rw [Af (by omega)]
 exact ⟨_,_,rfl,hd,Av (by omega)⟩
open Classical
end Go.Proofs.YtjcekpmojnnmbaaGreat.Ax
namespace Go.Proofs.YtjcekpmojnnmbaaGreat.Ax
open Go Classical
def Azo (n r k:Nat) (S:Nat→Bool):Prop := ∀x∈Bi n r k,S x.toNat=true
def A2x (a:SAlgebra) (i k:Nat):Nat:=(nth (nth a.Ops i).Table k).toNat
def A1s (a:SAlgebra) (i k:Nat) (S:Nat→Bool):Prop:=Azo a.Size.toNat (nth a.Ops i).Arity.toNat k S
def A1k (H:List Bool):Nat:=H.count true
section
variable {a:SAlgebra}
structure ReadyA (a:SAlgebra) (n:Nat):Prop where
 good:Axr a
 sz:a.Size=(n:Int)
 pos:0<n
 le:n≤8
theorem ReadyA.nat {n:Nat} (h:ReadyA a n):a.Size.toNat=n:=by have:=h.sz;omega
theorem ReadyA.op {n:Nat} (h:ReadyA a n) {i:Nat} (hi:i<a.Ops.length) : ∃r:Nat,(nth a.Ops i).Arity=(r:Int)∧r≤3∧(nth a.Ops i).Table.length=n^r∧Ba (nth a.Ops i).Table n∧(nth a.Ops i).Table.length≤512∧(∀k S,A1s a i k S↔Azo n r k S):=by
 have:=h.good.2.2.2 _ (Av hi)
 rw [h.nat] at this
 obtain ⟨h1,h2,h3,h4⟩:=this
 refine ⟨(nth a.Ops i).Arity.toNat,by omega,by omega,h3,h4,?_,fun k S=>by unfold A1s;rw [h.nat]⟩
 rw [h3];exact Ahp h.le (by omega)
theorem ReadyA.val {n:Nat} (h:ReadyA a n) {i k:Nat} (hi:i<a.Ops.length) (hk:k<(nth a.Ops i).Table.length):nth (nth a.Ops i).Table k=(A2x a i k:Int)∧A2x a i k<n:=by
 obtain ⟨r,_,_,_,h4,_⟩:=h.op hi
 have:=h4 _ (Av hk)
 unfold A2x
 omega
structure Pass (n:Nat) (G:Nat→Bool) (c0:Bool) (H0:List Bool) (c:Bool) (H:List Bool) (done:(Nat→Bool)→Prop):Prop where
 len:H.length=n
 more : ∀z,nth H0 z=true→nth H z=true
 low : ∀z,nth H z=true→G z=true
 up:c=true→c0=true∨A1k H0<A1k H
 no:c=false→c0=false∧H=H0∧done (nth H)
 mono:A1k H0≤A1k H
end
end Go.Proofs.YtjcekpmojnnmbaaGreat.Ax
namespace Go.Proofs.YtjcekpmojnnmbaaGreat.Ax
open Go Classical
end Go.Proofs.YtjcekpmojnnmbaaGreat.Ax
namespace Go.Proofs.YtjcekpmojnnmbaaGreat.Ax
open Go Classical
end Go.Proofs.YtjcekpmojnnmbaaGreat.Ax
namespace Go.Proofs.YtjcekpmojnnmbaaGreat.Ax
open Go Classical
end Go.Proofs.YtjcekpmojnnmbaaGreat.Ax
namespace Go.Proofs.YtjcekpmojnnmbaaGreat.Ax
open Go Classical
end Go.Proofs.YtjcekpmojnnmbaaGreat.Ax
namespace Go.Proofs.YtjcekpmojnnmbaaGreat.Ax
open Go Classical
end Go.Proofs.YtjcekpmojnnmbaaGreat.Ax
namespace Go.Proofs.YtjcekpmojnnmbaaGreat.Ax
open Go Classical
end Go.Proofs.YtjcekpmojnnmbaaGreat.Ax
namespace Go.Proofs.YtjcekpmojnnmbaaGreat.Ax
open Go Classical
theorem Ae6 {c:Sl1Cur} {k:Nat} (h:Cur k c) (hk:k≤600000000) {n:Int} (hn:n≤9) : ∃p d,Ci c n=some (p,d)∧Cur (k+20) d∧p.length=n.toNat:=by
 have hL:=Bd
 unfold Ci
 obtain ⟨⟨p,d⟩,e,hp,hd⟩:=D5 (body:=Cp n) (fun s => ∃i:Nat,s.1=(i:Int)∧i≤n.toNat∧s.2.1.length=i∧Cur (k+2*i) s.2.2) (fun s=>n.toNat-s.1.toNat) (fun t=>t.1.length=n.toNat∧Cur (k+20) t.2) (by
  rintro ⟨x,p,c⟩ ⟨i,rfl,g1,g2,g3⟩
  dsimp only at g2 g3
  unfold Cp
  dsimp only
  by_cases hi:(i:Int)<n
  ·obtain ⟨r,d,e,hd,r0,r1⟩:=Li g3 (by omega) ((i:Int)+1)
   rw [if_pos hi,Af (by unfold InI;omega),e]
   simp only [Option.bind_some]
   by_cases hr:r<(i:Int)
   ·rw [if_pos hr,Af (by omega),Af (by simp;omega),Af (by unfold InI;omega)]
    exact .inl ⟨_,rfl,⟨i+1,rfl,by omega,by simp;omega,hd.mono (by omega)⟩,by dsimp only;omega⟩
   ·rw [if_neg hr,Af (by simp;omega),Af (by unfold InI;omega)]
    exact .inl ⟨_,rfl,⟨i+1,rfl,by omega,by simp;omega,hd.mono (by omega)⟩,by dsimp only;omega⟩
  ·rw [if_neg hi]
   exact .inr ⟨_,rfl,by dsimp only;omega,g3.mono (by omega)⟩) (s:=((0:Int),Au Int,c)) ⟨0,rfl,Nat.zero_le _,rfl,h.mono (by omega)⟩
 rw [e]
 exact ⟨p,d,rfl,hd,hp⟩
theorem Am1 {T:List (List Int)} {t:List Int} {w:Nat} (hT:T.length≤1000000) (hw:w≤1000) (hr : ∀r∈T,r.length=w) (ht:t.length=w) : ∃(k:Nat) (b:Bool),C9 T t=some ((k:Int),b)∧k≤T.length:=by
 have hL:=Bd
 unfold C9
 obtain ⟨k,e,k0,k1⟩:=D5 (body:=D9 T t) (fun s=>0≤s.2∧s.2≤s.1∧s.1≤T.length) (fun s=>(s.1-s.2).toNat) (fun k=>0≤k∧k≤T.length) (by
  rintro ⟨tz,fr⟩ ⟨g0,g1,g2⟩
  dsimp only at g0 g1 g2
  unfold D9
  dsimp only
  by_cases hlt:fr<tz
  ·have e2:(fr+tz).tdiv 2=(fr+tz)/2:=Int.tdiv_eq_ediv_of_nonneg (by omega)
   rw [if_pos hlt,e2,Af (by unfold InI;omega),Af ⟨by decide,by unfold InI;omega⟩,Af (by omega)]
   obtain ⟨m,hm⟩:=Int.eq_ofNat_of_zero_le (show 0≤(fr+tz)/2 by omega)
   rw [hm,Int.toNat_natCast]
   have hml:m<T.length:=by omega
   have hrm:=hr _ (Av hml)
   have ec:=Aea (a:=nth T m) (b:=t) (by omega) (by omega)
   rw [ec]
   simp only [Option.bind_some]
   by_cases c:Mk (nth T m) t
   ·rw [decide_eq_true c,if_pos rfl,Af (by unfold InI;omega)]
    exact .inl ⟨_,rfl,⟨by dsimp only;omega,by dsimp only;omega,g2⟩,by dsimp only;omega⟩
   ·rw [decide_eq_false c,if_neg Bool.false_ne_true]
    exact .inl ⟨_,rfl,⟨g0,by dsimp only;omega,by dsimp only;omega⟩,by dsimp only;omega⟩
  ·rw [if_neg hlt]
   exact .inr ⟨_,rfl,g0,by omega⟩) (s:=((T.length:Int),(0:Int))) ⟨Int.le_refl _,by dsimp only;omega,Int.le_refl _⟩
 rw [e]
 simp only [Option.bind_some]
 obtain ⟨m,rfl⟩:=Int.eq_ofNat_of_zero_le k0
 by_cases hm:m<T.length
 ·have hrm:=hr _ (Av hm)
  rw [if_pos (by omega),Af (by omega),Int.toNat_natCast,Ap8 (by omega)]
  exact ⟨m,_,rfl,by omega⟩
 ·rw [if_neg (by omega)]
  exact ⟨m,_,rfl,by omega⟩
theorem Aja {T:List (List Int)} {t:List Int} {w:Nat} (hT:T.length≤1000000) (hw:w≤1000) (hr : ∀r∈T,r.length=w) (ht:t.length=w) : ∃M,E9 T t=some M∧M.length≤T.length+1 ∧ ∀r∈M,r.length=w:=by
 have hLim:=Bd
 obtain ⟨k,b,e,hk⟩:=Am1 hT hw hr ht
 unfold E9
 rw [e]
 simp only [Option.bind_some]
 by_cases hb:b=true
 ·rw [if_pos hb]
  exact ⟨T,rfl,Nat.le_succ _,hr⟩
 ·rw [if_neg hb,Af (by omega),Af (by simp [Au];omega),Af (by simp [Au];omega),Af (by omega),Af (by simp [Au];omega)]
  refine ⟨_,rfl,by simp [Au];omega,fun r hr'=> ?_⟩
  rcases List.mem_append.1 hr' with h | h
  ·rcases List.mem_append.1 h with h | h
   ·rcases List.mem_append.1 h with h | h
    ·simp [Au] at h
    ·exact hr r (List.mem_of_mem_drop (List.mem_of_mem_take h))
   ·rw [List.mem_singleton.1 h];exact ht
  ·exact hr r (List.mem_of_mem_drop (List.mem_of_mem_take h))
theorem A0r {n A:Nat} (h1:1≤n) (h8:n≤8) (hA:A≤3) : ∃T,Da (n:Int) (A:Int)=some { Arity:=(A:Int),Tuples:=T }∧T.length≤512 ∧ ∀t∈T,t.length=A:=by
 have hLim:=Bd
 have hp : ∀i,i≤A→n^i≤512:=fun i hi=>Nat.le_trans (Nat.pow_le_pow_left h8 i) (Nat.le_trans (Nat.pow_le_pow_right (by omega) (show i≤3 by omega)) (by decide))
 have hpA:=hp A (Nat.le_refl _)
 unfold Da
 have key:=Bk (body:=Bw (n:Int) (A:Int)) (fun i=>((i:Int),({ Arity:=(A:Int),Tuples:=(List.range i).map (Bi n A) }:SRelation))) (n^A) ({ Arity:=(A:Int),Tuples:=(List.range (n^A)).map (Bi n A) }:SRelation) (fun i hi=>by
  unfold Bw
  dsimp only
  rw [Ya 512 (by omega) hp (by omega)]
  simp only [Option.bind_some]
  rw [if_pos (by omega),Amq (by omega) (by omega) (by omega) (by omega)]
  simp only [Option.bind_some]
  rw [Af (by simp;omega),Af (by unfold InI;omega),List.range_succ,List.map_append]
  rfl) (by
  unfold Bw
  dsimp only
  rw [Ya 512 (by omega) hp (by omega)]
  simp only [Option.bind_some]
  rw [if_neg (by omega)])
 have key':Ao (Bw (n:Int) (A:Int)) (0,{ Arity:=(A:Int),Tuples:=Au (List Int) })=_:=key
 rw [key']
 refine ⟨_,rfl,by simp;omega,fun t ht=> ?_⟩
 obtain ⟨i,_,rfl⟩:=List.mem_map.1 ht
 exact G8 _ _ _
def Sq (m:Nat) (r:SRelation):Prop:=r.Tuples.length≤m ∧ ∀t∈r.Tuples,t.length≤3
theorem Sq.mono {m l:Nat} {r:SRelation} (h:Sq m r) (hl:m≤l):Sq l r:=⟨Nat.le_trans h.1 hl,h.2⟩
theorem Awl {p:List Int} (hp:p.length≤9):Sq 600 { Arity:=2,Tuples:=Aqe p }:=by
 have:=Ams p (p.length^2)
 have e:T8 p (p.length^2)=Aqe p:=rfl
 rw [e] at this
 have:p.length^2≤81:=Nat.le_trans (Nat.pow_le_pow_left hp 2) (by decide)
 refine ⟨by show (Aqe p).length≤600;omega,fun t ht=> ?_⟩
 have ht:t∈Aqe p:=ht
 unfold Aqe at ht
 obtain ⟨k,_,_,rfl⟩:=Ax5.1 ht
 rw [G8];omega
theorem Al2 {c:Sl1Cur} {k:Nat} (h:Cur k c) (hk:k≤500000000) (n A:Int) : ∃r d,D4 c n A=some (r,d)∧Cur (k+200) d∧Sq 601 r:=by
 have hLim:=Bd
 unfold D4 Nr
 rw [Aa2]
 simp only [Option.bind_some]
 by_cases hn:1≤n∧n≤8
 ·rw [decide_eq_true (show (1:Int)≤n∧n≤8 from hn),if_pos rfl,Aa2]
  simp only [Option.bind_some]
  by_cases hA:1≤A∧A≤3
  ·rw [decide_eq_true hA,if_pos rfl]
   obtain ⟨N,rfl⟩:=Int.eq_ofNat_of_zero_le (show 0≤n by omega)
   obtain ⟨w,rfl⟩:=Int.eq_ofNat_of_zero_le (show 0≤A by omega)
   obtain ⟨m,d,e,hd,hm⟩:=It h (by omega) [0,1,2,3,4,6,9] (by simp)
   rw [e]
   simp only [Option.bind_some]
   simp only [List.mem_cons,List.not_mem_nil,or_false] at hm
   have inner : ∀(x:Int) (q:SRelation) (c:Sl1Cur) (k:Nat),Cur k c→k≤600000000 → ∃t d,Ao (Ch (N:Int) (w:Int) x q) (0,Au Int,c)=some (t,d)∧t.length=w∧Cur (k+6) d:=by
    intro x q c k h hk
    obtain ⟨⟨t,d⟩,e,h1,h2⟩:=D5 (body:=Ch (N:Int) (w:Int) x q) (fun s => ∃i:Nat,s.1=(i:Int)∧i≤w∧s.2.1.length=i∧Cur (k+2*i) s.2.2) (fun s=>w-s.1.toNat) (fun t=>t.1.length=w∧Cur (k+6) t.2) (by
     rintro ⟨y,t,c⟩ ⟨i,rfl,g1,g2,g3⟩
     dsimp only at g2 g3
     unfold Ch
     dsimp only
     by_cases hi:i<w
     ·obtain ⟨r,d,e,hd,_⟩:=Li g3 (by omega) (N:Int)
      rw [if_pos (by omega),e]
      simp only [Option.bind_some]
      rw [Af (by simp;omega),Af (by unfold InI;omega)]
      exact .inl ⟨_,rfl,⟨i+1,rfl,hi,by simp;omega,hd.mono (by omega)⟩,by dsimp only;omega⟩
     ·rw [if_neg (by omega)]
      exact .inr ⟨_,rfl,by dsimp only;omega,g3.mono (by omega)⟩) (s:=((0:Int),Au Int,c)) ⟨0,rfl,Nat.zero_le _,rfl,h.mono (by omega)⟩
    exact ⟨t,d,e,h1,h2⟩
   obtain ⟨⟨q,d2⟩,e2,hq,hd2⟩:=D5 (body:=Db (N:Int) (w:Int)) (fun s => ∃i:Nat,s.1=(i:Int)∧i≤9∧s.2.1.Tuples.length≤9-i∧(∀t∈s.2.1.Tuples,t.length=w)∧Cur (k+2+6*(9-i)) s.2.2) (fun s=>s.1.toNat) (fun t=>Sq 600 t.1∧Cur (k+60) t.2) (by
    rintro ⟨x,q,c⟩ ⟨i,rfl,g1,g2,g3,g4⟩
    dsimp only at g2 g3 g4
    unfold Db
    dsimp only
    by_cases hi:(i:Int)>0
    ·obtain ⟨t,d,e,ht,hd⟩:=inner (i:Int) q c _ g4 (by omega)
     obtain ⟨M,e',hM,hMr⟩:=Aja (T:=q.Tuples) (t:=t) (w:=w) (by omega) (by omega) g3 ht
     rw [if_pos hi,e]
     simp only [Option.bind_some]
     rw [e']
     simp only [Option.bind_some]
     rw [Af (by unfold InI;omega)]
     exact .inl ⟨_,rfl,⟨i-1,by dsimp only;omega,by omega,by dsimp only;omega,hMr,hd.mono (by omega)⟩,by dsimp only;omega⟩
    ·rw [if_neg hi]
     exact .inr ⟨_,rfl,⟨by dsimp only;omega,fun t ht=>by rw [g3 t ht];omega⟩,g4.mono (by omega)⟩) (s:=(m,{ Arity:=(w:Int),Tuples:=Au (List Int) },d)) ⟨m.toNat,by dsimp only;omega,by omega,by simp [Au],fun t ht=>by simp [Au] at ht,hd.mono (by omega)⟩
   rw [e2]
   simp only [Option.bind_some]
   dsimp only at hq hd2
   have s2 : ∃r d,(if (w:Int)=2 then
     (Dn d2 3).bind fun (r18,u19)=>
     if r18=true then
      (Ci u19 (N:Int)).bind fun (r21,u22)=>
      (C7 r21).bind fun r23=>
      some (r23,u22)
     else
      some (q,u19)
     else
     some (q,d2):Option (SRelation×Sl1Cur))=some (r,d)∧Sq 600 r∧Cur (k+90) d:=by
    by_cases h2:(w:Int)=2
    ·rw [if_pos h2]
     obtain ⟨b,d3,e3,hd3⟩:=Aqh hd2 (by omega) 3
     rw [e3]
     simp only [Option.bind_some]
     by_cases hb:b=true
     ·rw [if_pos hb]
      obtain ⟨p,d4,e4,hd4,hp⟩:=Ae6 hd3 (by omega) (n:=(N:Int)) (by omega)
      rw [e4]
      simp only [Option.bind_some]
      rw [Aee (by omega)]
      exact ⟨_,_,rfl,Awl (by omega),hd4.mono (by omega)⟩
     ·rw [if_neg hb]
      exact ⟨_,_,rfl,hq,hd3.mono (by omega)⟩
    ·rw [if_neg h2]
     exact ⟨_,_,rfl,hq,hd2.mono (by omega)⟩
   obtain ⟨r3,d3,e3,hr3,hd3⟩:=s2
   rw [e3]
   simp only [Option.bind_some]
   have s4 : ∃r d,((Dn d3 12).bind fun (r25,u26)=>
        if r25=true then
         (Da (N:Int) (w:Int)).bind fun r28=>
         some (r28,u26)
        else
         some (r3,u26):Option (SRelation×Sl1Cur))=some (r,d)∧Sq 600 r∧Cur (k+100) d:=by
    obtain ⟨b,d4,e4,hd4⟩:=Aqh hd3 (by omega) 12
    rw [e4]
    simp only [Option.bind_some]
    by_cases hb:b=true
    ·rw [if_pos hb]
     obtain ⟨T,eT,hT1,hT2⟩:=A0r (n:=N) (A:=w) (by omega) (by omega) (by omega)
     rw [eT]
     exact ⟨_,_,rfl,⟨by dsimp only;omega,fun t ht=>by rw [hT2 t ht];omega⟩,hd4.mono (by omega)⟩
    ·rw [if_neg hb]
     exact ⟨_,_,rfl,hr3,hd4.mono (by omega)⟩
   obtain ⟨r4,d4,e4,hr4,hd4⟩:=s4
   rw [e4]
   simp only [Option.bind_some]
   obtain ⟨v,d5,e5,hd5,_⟩:=Li hd4 (by omega) 40
   have hlen:=hr4.1
   rw [e5]
   simp only [Option.bind_some]
   by_cases c0:v=0
   ·rw [if_pos c0]
    obtain ⟨u,d6,e6,hd6,_⟩:=It hd5 (by omega) [0,4, -1] (by simp)
    rw [e6]
    exact ⟨_,_,rfl,hd6.mono (by omega),hr4.mono (by omega)⟩
   rw [if_neg c0]
   by_cases c1:v=1
   ·rw [if_pos c1,Af (by omega),Af (by simp;omega)]
    refine ⟨_,_,rfl,hd5.mono (by omega),by simp;omega,fun t ht=> ?_⟩
    rcases List.mem_append.1 ht with h | h
    ·exact hr4.2 t h
    ·rw [List.mem_singleton.1 h,List.length_replicate];omega
   rw [if_neg c1]
   by_cases c2:v=2
   ·rw [if_pos c2]
    by_cases h0:(r4.Tuples.length:Int)>0
    ·rw [if_pos h0]
     obtain ⟨u,d6,e6,hd6,_⟩:=It hd5 (by omega) [-1,(N:Int),0] (by simp)
     rw [e6]
     simp only [Option.bind_some]
     rw [Af (by omega)]
     refine ⟨_,_,rfl,hd6.mono (by omega),by dsimp only;rw [List.length_set];omega,fun t ht=> ?_⟩
     rcases List.mem_or_eq_of_mem_set ht with h | h
     ·exact hr4.2 t h
     ·rw [h];simp
    ·rw [if_neg h0]
     exact ⟨_,_,rfl,hd5.mono (by omega),hr4.mono (by omega)⟩
   ·rw [if_neg c2]
    exact ⟨_,_,rfl,hd5.mono (by omega),hr4.mono (by omega)⟩
  ·rw [decide_eq_false hA,if_neg Bool.false_ne_true]
   exact ⟨_,_,rfl,h.mono (by omega),by simp [Au],fun t ht=>by simp [Au] at ht⟩
 ·rw [decide_eq_false (show ¬((1:Int)≤n∧n≤8) from hn),if_neg Bool.false_ne_true]
  exact ⟨_,_,rfl,h.mono (by omega),by simp [Au],fun t ht=>by simp [Au] at ht⟩
end Go.Proofs.YtjcekpmojnnmbaaGreat.Ax
namespace Go.Proofs.YtjcekpmojnnmbaaGreat.Ax
open Go Classical
def apV (T:List (List Int)) (n w:Nat) (f:SOp) (r:Nat):List Int:=(List.range w).map fun j=>nth f.Table (hT n r fun i=>nth (nth T i) j).toNat
theorem Aa6 {a:SAlgebra} {n r w i:Nat} (hsz:a.Size=n) (h8:n≤8) (hi:i<a.Ops.length) (_hil:a.Ops.length≤1048576) (hf:OpQ n r (nth a.Ops i)) {T:List (List Int)} (hTr:T.length=r) (hrow : ∀t∈T,t.length=w∧Ba t n) (hw:w≤1000) :
  Ff a i T w=some (apV T n w (nth a.Ops i) r)∧Ba (apV T n w (nth a.Ops i) r) n:=by
 have hL:=Bd
 have hr3:=hf.le
 have hy : ∀j,j<w → ∀q,q<r→0≤nth (nth T q) j∧nth (nth T q) j<n:=fun j hj q hq=>by
  obtain ⟨a1,a2⟩:=hrow _ (Av (show q<T.length by omega))
  exact a2 _ (Av (by omega))
 constructor
 ·unfold Ff
  have key:=Bk (body:=Dx a i T w) (fun j=>((j:Int),(List.range j).map fun j=>nth (nth a.Ops i).Table (hT n r fun q=>nth (nth T q) j).toNat)) w (apV T n w (nth a.Ops i) r) (fun j hj=>by
   obtain ⟨⟨d,d1,d2,_⟩,_⟩:=hf.at h8 (hy j hj)
   have l1 : ∀b,Ao (Ev a i T w (j:Int) b) (0,0)=some (hT n r fun q=>nth (nth T q) j):=fun b=>by
    refine Auj n r _ (fun q hq=> ?_) fun q=>by unfold Ev;dsimp only;rw [if_neg (by omega)]
    obtain ⟨b1,b2⟩:=hrow _ (Av (show q<T.length by omega))
    have b3:=hy j hj q hq
    obtain ⟨c,c1,_,c3⟩:=Ab4 (n:=n) (r:=q) (y:=fun q=>nth (nth T q) j) h8 (by omega) (fun q' hq'=>hy j hj q' (by omega))
    have q5:(c:Int)*(n:Int)=((c*n:Nat):Int):=by push_cast;rfl
    have q6:c*n≤512*8:=Nat.mul_le_mul (by omega) h8
    unfold Ev
    dsimp only
    rw [if_pos (by omega),hsz,c1,q5,Af (by unfold InI;omega),Af (by omega),Int.toNat_natCast,Af (by omega),Int.toNat_natCast,Af (by unfold InI;omega),Af (by unfold InI;omega)]
    rfl
   unfold Dx
   dsimp only
   rw [if_pos (by omega),l1]
   simp only [Option.bind_some]
   rw [Int.toNat_natCast,Af (by omega),d1,Af (by omega),Af (by simp;omega),Af (by unfold InI;omega),List.range_succ,List.map_append]
   simp only [List.map_cons,List.map_nil]
   rw [d1]
   rfl) (by
   unfold Dx
   dsimp only
   rw [if_neg (by omega)]
   rfl)
  have key':Ao (Dx a i T w) (0,Au Int)=_:=key
  rw [key'];rfl
 ·intro v hv
  obtain ⟨j,hj,rfl⟩:=List.mem_map.1 hv
  exact (hf.at h8 (hy j (List.mem_range.1 hj))).2
theorem At0 (T:List (List Int)) (n w:Nat) (f:SOp) (r:Nat):(apV T n w f r).length=w:=by simp [apV]
theorem Aje (N:Nat) (ys:List Int) : ∀m,Dj N (ys++List.replicate m 0)=Dj N ys*((N^m:Nat):Int)
 | 0=>by simp
 | m+1=>by
   rw [List.replicate_succ',←List.append_assoc,F0,Aje N ys m,Int.add_zero,Int.mul_assoc,Nat.pow_succ]
   congr 1
theorem Ae4 (N:Nat) (ys:List Int) : ∀m,Dj N (ys++List.replicate m ((N:Int)-1))+1=(Dj N ys+1)*((N^m:Nat):Int)
 | 0=>by simp
 | m+1=>by
   have:=Ae4 N ys m
   rw [List.replicate_succ',←List.append_assoc,F0]
   have e:Dj N (ys++List.replicate m ((N:Int)-1))*(N:Int)+((N:Int)-1)+1=(Dj N (ys++List.replicate m ((N:Int)-1))+1)*(N:Int):=by
    rw [Int.add_mul,Int.one_mul];omega
   rw [e,this,Int.mul_assoc,Nat.pow_succ]
   congr 1
theorem Amy {xs:List Int} {r N:Nat} (hl:xs.length=r) (hr:r≤100) (hN:1≤N) (hN2:N≤1000000) (hx:Ba xs N) : ∃ys b,Fc xs N=some (ys,b)∧ys.length=r∧Ba ys N∧(b=true→Dj N ys=Dj N xs+1)∧(b=false→Dj N xs+1=((N^r:Nat):Int)):=by
 have hL:=Bd
 unfold Fc
 rw [Ayj (by omega)]
 simp only [Option.bind_some]
 rw [Af (by unfold InI;omega)]
 obtain ⟨t,e,ht⟩:=D5 (body:=G1 N) (fun s => ∃j:Nat,s=((j:Int)-1,xs.take j++List.replicate (r-j) 0)∧j≤r ∧ ∀q,j≤q→q<r→nth xs q=(N:Int)-1) (fun s=>(s.1+1).toNat) (fun t=>match t with
  | .inl ys=>ys.length=r∧Ba ys N∧Dj N ys=Dj N xs+1
  | .inr ys=>ys.length=r∧Ba ys N∧Dj N xs+1=((N^r:Nat):Int)) (by
  rintro s ⟨j,rfl,hj,hq⟩
  unfold G1
  dsimp only
  have hlen:(xs.take j++List.replicate (r-j) 0).length=r:=by simp;omega
  by_cases h0:0<j
  ·obtain ⟨i,rfl⟩ : ∃i,j=i+1:=⟨j-1,by omega⟩
   have hv:nth (xs.take (i+1)++List.replicate (r-(i+1)) 0) i=nth xs i:=by
    rw [V8 (by simp;omega),Cx (by omega)]
    have:=Akb (xs:=xs.take i) (y:=nth xs i)
    rwa [List.length_take,Nat.min_eq_left (by omega)] at this
   have hxi:=hx _ (Av (show i<xs.length by omega))
   have hset : ∀v:Int,(xs.take (i+1)++List.replicate (r-(i+1)) 0).set i v=xs.take i++[v]++List.replicate (r-(i+1)) 0:=fun v=>by
    rw [Cx (by omega),List.set_append_left _ _ (by simp;omega),List.set_append_right _ _ (by simp;omega)]
    simp [List.length_take,Nat.min_eq_left (show i≤xs.length by omega)]
   have htake:Ba (xs.take i) N:=fun z hz=>hx z (List.mem_of_mem_take hz)
   rw [show (((i+1:Nat):Int)-1)=(i:Int) by omega,if_pos (by omega),Af (by omega),Af (by unfold InI;omega),Int.toNat_natCast,hv]
   by_cases hlt:nth xs i<(N:Int)-1
   ·rw [if_pos hlt,Af (by omega),Af (by unfold InI;omega),Af (by omega),hset]
    refine .inr ⟨_,rfl,by simp;omega,?_,?_⟩
    ·intro z hz
     simp only [List.mem_append,List.mem_singleton,List.mem_replicate] at hz
     rcases hz with (hz | hz) | hz
     ·exact htake z hz
     ·omega
     ·omega
    ·have e1:xs=xs.take i++[nth xs i]++List.replicate (r-(i+1)) ((N:Int)-1):=by
      rw [←Cx (by omega)]
      refine Pt (by simp;omega) fun q hq'=> ?_
      by_cases hqi:q<i+1
      ·rw [V8 (by simp;omega),Ea hq',Ea (by simp;omega),List.getElem_take]
      ·rw [hq q (by omega) (by omega)]
       rw [Ea (by simp;omega),List.getElem_append_right (by simp;omega)]
       simp
     have e2:=Ae4 N (xs.take i++[nth xs i]) (r-(i+1))
     rw [←e1] at e2
     rw [e2,Aje,F0,F0,Int.add_assoc]
   ·rw [if_neg hlt,Af (by omega),Af (by unfold InI;omega),hset]
    refine .inl ⟨_,rfl,⟨i,?_,by omega,fun q h1 h2=> ?_⟩,by dsimp only;omega⟩
    ·rw [show r-i=(r-(i+1))+1 by omega,List.replicate_succ]
     simp
    ·by_cases e:q=i
     ·subst e;omega
     ·exact hq q (by omega) h2
  ·have:j=0:=by omega
   subst this
   rw [if_neg (by omega)]
   refine .inr ⟨_,rfl,hlen,fun z hz=> ?_,?_⟩
   ·simp only [List.take_zero,List.nil_append,List.mem_replicate] at hz
    omega
   ·have e1:xs=List.replicate r ((N:Int)-1):=Pt (by simp;omega) fun q hq'=>by
     rw [hq q (by omega) (by omega),Alk _ (by omega)]
    have e2:=Ae4 N [] r
    rw [List.nil_append,←e1] at e2
    rw [e2,show Dj N []=0 from rfl,Int.zero_add,Int.one_mul]) (s:=((xs.length:Int)-1,xs)) ⟨r,by rw [hl,List.take_of_length_le (by omega)];simp,Nat.le_refl _,fun q h1 h2=>by omega⟩
 rw [e]
 cases t with
 | inl ys=>exact ⟨ys,true,rfl,ht.1,ht.2.1,fun _=>ht.2.2,fun h=>absurd h (by simp)⟩
 | inr ys=>exact ⟨ys,false,rfl,ht.1,ht.2.1,fun h=>absurd h (by simp),fun _=>ht.2.2⟩
theorem Auy {xs:List Int} {r N:Nat} (hl:xs.length=r) (hr:r≤100) (hN:1≤N) (hN2:N≤1000000) (hx:Ba xs N) : ∃ys b,Fc xs N=some (ys,b)∧ys.length=r∧Ba ys N∧(b=true→Dj N ys=Dj N xs+1):=by
 obtain ⟨ys,b,h1,h2,h3,h4,_⟩:=Amy hl hr hN hN2 hx
 exact ⟨ys,b,h1,h2,h3,h4⟩
theorem Arw {line:List (List Int)} {xs:List Int} (hl:xs.length≤1048576) (hx:Ba xs line.length):G2 line xs=some (xs.map fun i=>nth line i.toNat,line):=by
 have hL:=Bd
 unfold G2
 have key:=Bk (body:=C3 line xs) (fun i=>((i:Int),(xs.take i).map fun i=>nth line i.toNat)) xs.length (xs.map fun i=>nth line i.toNat) (fun i hi=>by
  have:=hx _ (Av hi)
  unfold C3
  dsimp only
  rw [if_pos (by omega),Af (by omega),Int.toNat_natCast,Af (by omega),Af (by simp;omega),Af (by unfold InI;omega),Cx hi,List.map_append]
  rfl) (by
  unfold C3
  dsimp only
  rw [if_neg (by omega),List.take_of_length_le (by omega)])
 have key':Ao (C3 line xs) (0,Au (List Int))=_:=key
 rw [key'];rfl
theorem Awd {a:SAlgebra} (hl:a.Ops.length≤1048576) : ∃m:Int,Kh a=some m∧40≤m∧m≤300:=by
 unfold Kh
 obtain ⟨t,e,_⟩:=D5 (body:=G0 a) (fun s => ∃i:Nat,s.1=(i:Int)∧i≤a.Ops.length) (fun s=>a.Ops.length-s.1.toNat) (fun _=>True) (by
  rintro ⟨x,m⟩ ⟨i,rfl,hi⟩
  unfold G0
  dsimp only
  by_cases h:i<a.Ops.length
  ·rw [if_pos (by omega),Af (by omega),Axw]
   simp only [Option.bind_some]
   rw [Af (by unfold InI;omega)]
   exact .inl ⟨_,rfl,⟨i+1,rfl,h⟩,by dsimp only;omega⟩
  ·rw [if_neg (by omega)]
   exact .inr ⟨_,rfl,trivial⟩) (s:=((0:Int),(0:Int))) ⟨0,rfl,Nat.zero_le _⟩
 rw [e]
 simp only [Option.bind_some]
 by_cases h3:t=3
 ·rw [if_pos h3];exact ⟨_,rfl,by decide,by decide⟩
 rw [if_neg h3]
 by_cases h2:t=2
 ·rw [if_pos h2];exact ⟨_,rfl,by decide,by decide⟩
 rw [if_neg h2];exact ⟨_,rfl,by decide,by decide⟩
structure ClQ (n w:Nat) (line out:List (List Int)):Prop where
 row : ∀t∈line,t.length=w∧Ba t n
 orow : ∀t∈out,t.length=w
 le:out.length≤line.length
 most:line.length≤1200
theorem ClQ.add {n w:Nat} {line out:List (List Int)} (h:ClQ n w line out) (hw:w≤1000) {t:List Int} (ht:t.length=w) (hti:Ba t n) (hlt:line.length<1200) :
  ∃k b,C9 out t=some (k,b) ∧ ∃M,E9 out t=some M∧ClQ n w (line++[t]) M:=by
 obtain ⟨k,b,e,_⟩:=Am1 (T:=out) (t:=t) (w:=w) (by have:=h.le;have:=h.most;omega) hw h.orow ht
 obtain ⟨M,e2,h1,h2⟩:=Aja (T:=out) (t:=t) (w:=w) (by have:=h.le;have:=h.most;omega) hw h.orow ht
 refine ⟨_,b,e,M,e2,fun s hs=> ?_,h2,?_,?_⟩
 ·rcases List.mem_append.1 hs with hs | hs
  ·exact h.row s hs
  ·rw [List.mem_singleton.1 hs];exact ⟨ht,hti⟩
 ·have:=h.le
  rw [List.length_append];simp only [List.length_cons,List.length_nil];omega
 ·rw [List.length_append];simp only [List.length_cons,List.length_nil];omega
section
variable {a:SAlgebra} {n w:Nat} (hsz:a.Size=n) (h8:n≤8) (hol:a.Ops.length≤100) (hops : ∀i,i<a.Ops.length → ∃r,OpQ n r (nth a.Ops i)) (hw:w≤1000)
include hsz h8 hol hops hw
omit hops in
theorem A2q {m:Int} (hm:m≤300) {x i:Nat} (hi:i<a.Ops.length) {r:Nat} (hf:OpQ n r (nth a.Ops i)) {line out:List (List Int)} (hx:x<line.length) (h:ClQ n w line out) (b:Bool) :
  ∃L O,Ao (En a w m x i) (b,List.replicate r 0,line,out)=some (L,O)∧ClQ n w L O∧x<L.length:=by
 have hLm:=Bd
 have hr3:=hf.le
 have hx0:=h.most
 obtain ⟨t,e,ht⟩:=D5 (body:=En a w m x i) (fun s=>s.2.1.length=r∧Ba s.2.1 ((x+1:Nat):Int)∧ClQ n w s.2.2.1 s.2.2.2∧x<s.2.2.1.length) (fun s=>if s.1=true then 1+((((x+1)^r:Nat):Int)-Dj (x+1) s.2.1).toNat else 0) (fun t=>ClQ n w t.1 t.2∧x<t.1.length) (by
  rintro ⟨b,xs,L,O⟩ ⟨g1,g2,g3,g4⟩
  dsimp only at g1 g2 g3 g4
  unfold En
  dsimp only
  cases b with
  | false=>
    rw [if_neg (by simp)]
    exact .inr ⟨_,rfl,g3,g4⟩
  | true=>
    rw [if_pos rfl]
    by_cases hLl:(L.length:Int)≤m
    ·rw [if_pos hLl]
     simp only [Option.bind_some]
     have hg:=g3.most
     obtain ⟨ys,c,e1,y1,y2,y3⟩:=Auy g1 (by omega) (show 1≤x+1 by omega) (by omega) g2
     obtain ⟨d,d1,d2⟩:=Pj r xs g1 g2
     obtain ⟨d',d1',d2'⟩:=Pj r ys y1 y2
     have fin : ∀L' O',ClQ n w L' O'→x<L'.length→(∃s',(((Fc xs ((x:Int)+1)).bind fun r44=>some (.inl (r44.snd,r44.fst,L',O'))):Option ((Bool×(List Int)×(List (List Int))×(List (List Int))) ⊕ ((List (List Int))×(List (List Int)))))=some (.inl s')∧(s'.2.1.length=r∧Ba s'.2.1 ((x+1:Nat):Int)∧ClQ n w s'.2.2.1 s'.2.2.2∧x<s'.2.2.1.length)∧(if s'.1=true then 1+((((x+1)^r:Nat):Int)-Dj (x+1) s'.2.1).toNat else 0)<(if true=true then 1+((((x+1)^r:Nat):Int)-Dj (x+1) xs).toNat else 0)):=fun L' O' k1 k2=>by
      rw [show ((x:Int)+1)=((x+1:Nat):Int) by omega,e1]
      refine ⟨_,rfl,⟨y1,y2,k1,k2⟩,?_⟩
      dsimp only
      rw [if_pos rfl]
      cases c with
      | false=>rw [if_neg (by simp)];omega
      | true=>
        have:=y3 rfl
        rw [if_pos rfl]
        omega
     rw [A0c _ _ (by omega)]
     simp only [Option.bind_some]
     by_cases hh:(x:Int)∈xs
     ·rw [decide_eq_true hh,if_pos rfl,Arw (by omega) (fun z hz=>by have:=g2 z hz;omega)]
      simp only [Option.bind_some]
      have hrow : ∀t∈xs.map (fun i=>nth L i.toNat),t.length=w∧Ba t n:=fun t ht=>by
       obtain ⟨z,hz,rfl⟩:=List.mem_map.1 ht
       have:=g2 z hz
       exact g3.row _ (Av (by omega))
      obtain ⟨p1,p2⟩:=Aa6 hsz h8 hi (by omega) hf (T:=xs.map fun i=>nth L i.toNat) (by rw [List.length_map];exact g1) hrow hw
      rw [p1]
      simp only [Option.bind_some]
      obtain ⟨k,bb,f1,M,f2,f3⟩:=g3.add hw (At0 _ _ _ _ _) p2 (by omega)
      rw [f1]
      simp only [Option.bind_some]
      cases bb with
      | true=>
        rw [if_pos rfl]
        simp only [Option.bind_some]
        rw [Af (by unfold InI;omega)]
        exact .inl (fin _ _ g3 g4)
      | false=>
        rw [if_neg (by simp),f2]
        simp only [Option.bind_some]
        rw [Af (by simp only [List.length_cons,List.length_nil];omega)]
        simp only [Option.bind_some]
        rw [Af (by unfold InI;omega)]
        exact .inl (fin _ _ f3 (by rw [List.length_append];omega))
     ·rw [decide_eq_false hh,if_neg (by simp)]
      simp only [Option.bind_some]
      rw [Af (by unfold InI;omega)]
      exact .inl (fin _ _ g3 g4)
    ·rw [if_neg hLl]
     exact .inr ⟨_,rfl,g3,g4⟩) (s:=(b,List.replicate r 0,line,out)) ⟨by simp,fun z hz=>by rw [List.mem_replicate] at hz;omega,h,hx⟩
 exact ⟨t.1,t.2,e,ht.1,ht.2⟩
theorem A1w {m:Int} (hm:m≤300) {x:Nat} {line out:List (List Int)} (hx:x<line.length) (h:ClQ n w line out) :
  ∃L O,Ao (Er a w m x) (0,line,out)=some (L,O)∧ClQ n w L O∧x<L.length:=by
 have hLm:=Bd
 obtain ⟨t,e,ht⟩:=D5 (body:=Er a w m x) (fun s => ∃i:Nat,s.1=(i:Int)∧i≤a.Ops.length∧ClQ n w s.2.1 s.2.2∧x<s.2.1.length) (fun s=>a.Ops.length-s.1.toNat) (fun t=>ClQ n w t.1 t.2∧x<t.1.length) (by
  rintro ⟨y,L,O⟩ ⟨i,rfl,g1,g2,g3⟩
  dsimp only at g2 g3
  unfold Er
  dsimp only
  by_cases hi:i<a.Ops.length
  ·obtain ⟨r,hf⟩:=hops i hi
   have hr3:=hf.le
   obtain ⟨L',O',e,q1,q2⟩:=A2q hsz h8 hol hw hm hi hf g3 g2 (decide ((r:Int)>0))
   rw [if_pos (by omega),Af (by omega),Int.toNat_natCast,hf.ar,Af (by omega),Af (by omega),Int.toNat_natCast,e]
   simp only [Option.bind_some]
   rw [Af (by unfold InI;omega)]
   exact .inl ⟨_,rfl,⟨i+1,rfl,hi,q1,q2⟩,by dsimp only;omega⟩
  ·rw [if_neg (by omega)]
   exact .inr ⟨_,rfl,g2,g3⟩) (s:=((0:Int),line,out)) ⟨0,rfl,Nat.zero_le _,h,hx⟩
 exact ⟨t.1,t.2,e,ht.1,ht.2⟩
theorem Asy {gens:List (List Int)} (hgl:gens.length≤1000) (hg : ∀t∈gens,t.length=w∧Ba t n) : ∃T b,G3 a w gens=some (T,b)∧T.length≤1200 ∧ ∀t∈T,t.length=w:=by
 have hLm:=Bd
 obtain ⟨m,em,m1,m2⟩:=Awd (a:=a) (by omega)
 unfold G3
 rw [em]
 simp only [Option.bind_some]
 have k1:=Bk (body:=Dw a w gens m) (fun i=>((i:Int),gens.take i)) gens.length gens (fun i hi=>by
  have hgi:=hg _ (Av hi)
  unfold Dw
  dsimp only
  rw [if_pos (by omega),Af (by omega),Int.toNat_natCast,Ayj (by omega)]
  simp only [Option.bind_some]
  rw [Af (by simp;omega),Af (by unfold InI;omega),Cx hi]
  rfl) (by
  unfold Dw
  dsimp only
  rw [if_neg (by omega),List.take_of_length_le (by omega)])
 have k1':Ao (Dw a w gens m) (0,Au (List Int))=some gens:=k1
 rw [k1']
 simp only [Option.bind_some]
 obtain ⟨F,e2,f1,f2⟩:=D5 (body:=F8 a w m) (fun s => ∃i:Nat,s.1=(i:Int)∧i≤a.Ops.length∧s.2.length≤1000+i ∧ ∀t∈s.2,t.length=w∧Ba t n) (fun s=>a.Ops.length-s.1.toNat) (fun t=>t.length≤1100 ∧ ∀r∈t,r.length=w∧Ba r n) (by
  rintro ⟨y,F⟩ ⟨i,rfl,g1,g2,g3⟩
  dsimp only at g2 g3
  unfold F8
  dsimp only
  by_cases hi:i<a.Ops.length
  ·obtain ⟨r,hf⟩:=hops i hi
   rw [if_pos (by omega),Af (by omega),Int.toNat_natCast,hf.ar]
   by_cases h0:(r:Int)=0
   ·have h0':r=0:=by omega
    subst h0'
    obtain ⟨p1,p2⟩:=Aa6 hsz h8 hi (by omega) hf (T:=Au (List Int)) rfl (fun t ht=>by simp [Au] at ht) hw
    rw [if_pos h0,p1]
    simp only [Option.bind_some]
    rw [Af (by simp only [List.length_cons,List.length_nil];omega),Af (by unfold InI;omega)]
    refine .inl ⟨_,rfl,⟨i+1,rfl,hi,by rw [List.length_append];simp only [List.length_cons,List.length_nil];omega,fun t ht=> ?_⟩,by dsimp only;omega⟩
    rcases List.mem_append.1 ht with ht | ht
    ·exact g3 t ht
    ·rw [List.mem_singleton.1 ht];exact ⟨At0 _ _ _ _ _,p2⟩
   ·rw [if_neg h0,Af (by unfold InI;omega)]
    exact .inl ⟨_,rfl,⟨i+1,rfl,hi,by dsimp only;omega,g3⟩,by dsimp only;omega⟩
  ·rw [if_neg (by omega)]
   exact .inr ⟨_,rfl,by omega,g3⟩) (s:=((0:Int),gens)) ⟨0,rfl,Nat.zero_le _,by dsimp only;omega,hg⟩
 rw [e2]
 simp only [Option.bind_some]
 obtain ⟨⟨L,O⟩,e3,l1⟩:=D5 (body:=F7 a w m F) (fun s => ∃i:Nat,s.1=(i:Int)∧i≤F.length∧ClQ n w s.2.1 s.2.2∧s.2.1.length≤i) (fun s=>F.length-s.1.toNat) (fun t=>ClQ n w t.1 t.2) (by
  rintro ⟨y,L,O⟩ ⟨i,rfl,g1,g2,g3⟩
  dsimp only at g2 g3
  unfold F7
  dsimp only
  by_cases hi:i<F.length
  ·obtain ⟨q1,q2⟩:=f2 _ (Av hi)
   obtain ⟨k,bb,p1,M,p2,p3⟩:=g2.add hw q1 q2 (by omega)
   rw [if_pos (by omega),Af (by omega),Int.toNat_natCast,p1]
   simp only [Option.bind_some]
   cases bb with
   | true=>
     rw [if_pos rfl,Af (by unfold InI;omega)]
     exact .inl ⟨_,rfl,⟨i+1,rfl,hi,g2,by dsimp only;omega⟩,by dsimp only;omega⟩
   | false=>
     rw [if_neg (by simp),Af (by omega),p2]
     simp only [Option.bind_some]
     rw [Af (by omega),Af (by simp only [List.length_cons,List.length_nil];omega),Af (by unfold InI;omega)]
     exact .inl ⟨_,rfl,⟨i+1,rfl,hi,p3,by rw [List.length_append];simp only [List.length_cons,List.length_nil];omega⟩,by dsimp only;omega⟩
  ·rw [if_neg (by omega)]
   exact .inr ⟨_,rfl,g2⟩) (s:=((0:Int),Au (List Int),Au (List Int))) ⟨0,rfl,Nat.zero_le _,⟨fun t ht=>by simp [Au] at ht,fun t ht=>by simp [Au] at ht,Nat.le_refl _,by simp [Au]⟩,Nat.le_refl _⟩
 dsimp only at l1
 rw [e3]
 simp only [Option.bind_some]
 obtain ⟨T,e4,t1,t2⟩:=D5 (body:=F5 a w m) (fun s => ∃x:Nat,s.1=(x:Int)∧x≤1200∧ClQ n w s.2.1 s.2.2) (fun s=>1200-s.1.toNat) (fun t=>t.length≤1200 ∧ ∀r∈t,r.length=w) (by
  rintro ⟨y,L,O⟩ ⟨x,rfl,g1,g2⟩
  dsimp only at g2
  have q1:=g2.le
  have q2:=g2.most
  unfold F5
  dsimp only
  by_cases hx:x<L.length
  ·rw [if_pos (by omega)]
   by_cases hLm':(L.length:Int)≤m
   ·obtain ⟨L',O',e,p1,p2⟩:=A1w hsz h8 hol hops hw m2 hx g2
    rw [if_pos hLm']
    simp only [Option.bind_some]
    rw [e]
    simp only [Option.bind_some]
    rw [Af (by unfold InI;omega)]
    exact .inl ⟨_,rfl,⟨x+1,rfl,by omega,p1⟩,by dsimp only;omega⟩
   ·rw [if_neg hLm']
    exact .inr ⟨_,rfl,by omega,g2.orow⟩
  ·rw [if_neg (by omega)]
   exact .inr ⟨_,rfl,by omega,g2.orow⟩) (s:=((0:Int),L,O)) ⟨0,rfl,Nat.zero_le _,l1⟩
 rw [e4]
 exact ⟨T,_,rfl,t1,t2⟩
end
theorem Aii {v:Nat} {x:Int} (hv:v≤1000):Fk v x=some (List.replicate v x):=by
 have hL:=Bd
 unfold Fk
 have key:=Bk (body:=Cn v x) (fun i=>((i:Int),List.replicate i x)) v (List.replicate v x) (fun i hi=>by
  unfold Cn
  dsimp only
  rw [if_pos (by omega),Af (by simp;omega),Af (by unfold InI;omega),List.replicate_succ']
  rfl) (by
  unfold Cn
  dsimp only
  rw [if_neg (by omega)])
 have key':Ao (Cn v x) (0,Au Int)=_:=key
 rw [key'];rfl
theorem Aso {a:Nat} (h1:1≤a) (h3:a≤3):Da 2 (a:Int)=some { Arity:=(a:Int),Tuples:=(List.range (2^a)).map (Bi 2 a) }:=by
 have hL:=Bd
 have hp : ∀i,i≤a→2^i≤8:=fun i hi=>Nat.le_trans (Nat.pow_le_pow_right (by omega) (show i≤3 by omega)) (by decide)
 have hpa:=hp a (Nat.le_refl _)
 unfold Da
 have key:=Bk (body:=Bw 2 (a:Int)) (fun i=>((i:Int),({ Arity:=(a:Int),Tuples:=(List.range i).map (Bi 2 a) }:SRelation))) (2^a) ({ Arity:=(a:Int),Tuples:=(List.range (2^a)).map (Bi 2 a) }:SRelation) (fun i hi=>by
  unfold Bw
  dsimp only
  rw [show ((2:Int))=((2:Nat):Int) from rfl,Ya 8 (by omega) hp (by omega)]
  simp only [Option.bind_some]
  rw [if_pos (by omega),Amq (by omega) (by omega) (by omega) (by omega)]
  simp only [Option.bind_some]
  rw [Af (by simp;omega),Af (by unfold InI;omega),List.range_succ,List.map_append]
  rfl) (by
  unfold Bw
  dsimp only
  rw [show ((2:Int))=((2:Nat):Int) from rfl,Ya 8 (by omega) hp (by omega)]
  simp only [Option.bind_some]
  rw [if_neg (by omega)])
 have key':Ao (Bw 2 (a:Int)) (0,{ Arity:=(a:Int),Tuples:=Au (List Int) })=_:=key
 rw [key'];rfl
theorem A1p {i:Nat} (hi:i<4) : ∃r,OpQ 2 r (nth [({ Arity:=2,Table:=[0,0,0,1] }:SOp),{ Arity:=2,Table:=[0,1,1,1] },{ Arity:=3,Table:=[0,1,1,0,1,0,0,1] },{ Arity:=3,Table:=[0,0,0,1,0,1,1,1] }] i):=by
 have key : ∀T:List Int,(∀v∈T,v=0∨v=1)→Ba T 2:=fun T h v hv=>by have:=h v hv;omega
 rcases (show i=0∨i=1∨i=2∨i=3 by omega) with rfl | rfl | rfl | rfl
 ·exact ⟨2,rfl,by omega,rfl,key _ (by simp [nth])⟩
 ·exact ⟨2,rfl,by omega,rfl,key _ (by simp [nth])⟩
 ·exact ⟨3,rfl,by omega,rfl,key _ (by simp [nth])⟩
 ·exact ⟨3,rfl,by omega,rfl,key _ (by simp [nth])⟩
theorem Aro {c:Sl1Cur} {k:Nat} (h:Cur k c) (hk:k≤400000000) {cl:Int} (h0:0≤cl) (h7:cl≤8) : ∃r d,Fj c cl=some (r,d)∧Cur (k+210) d∧Sq 1200 r∧r.Arity≤3:=by
 have hLm:=Bd
 unfold Fj
 obtain ⟨A,d,e,hd,hA⟩:=It h (by omega) [1,2,2,3,3,3] (by simp)
 rw [e]
 simp only [Option.bind_some]
 simp only [List.mem_cons,List.not_mem_nil,or_false] at hA
 obtain ⟨w,rfl⟩:=Int.eq_ofNat_of_zero_le (show 0≤A by omega)
 obtain ⟨r,d2,e2,hd2,hr⟩:=Al2 hd (by omega) 2 (w:Int)
 rw [e2]
 simp only [Option.bind_some]
 have g:=Amo (n:=2) (r:=r) (Nat.le_trans hr.1 (by omega)) (fun t ht=>Nat.le_trans (hr.2 t ht) (by omega)) (by omega)
 rw [show ((2:Nat):Int)=2 from rfl] at g
 rw [g]
 simp only [Option.bind_some]
 have hq : ∃q,(if decide (Dq 2 r)=true then some r else (Da 2 (w:Int)).bind fun r7=>some r7)=some q∧(∃a:Nat,q.Arity=(a:Int)∧a≤3 ∧ ∀t∈q.Tuples,t.length=a∧Ba t 2)∧q.Tuples.length≤601:=by
  by_cases hok:Dq 2 r
  ·rw [decide_eq_true hok,if_pos rfl]
   have h1:=hok.1
   have h3:=hok.2.1
   obtain ⟨a,ha⟩:=Int.eq_ofNat_of_zero_le (show 0≤r.Arity by omega)
   refine ⟨r,rfl,⟨a,ha,by omega,fun t ht=> ?_⟩,hr.1⟩
   obtain ⟨q1,q2⟩:=Dq.row (n:=2) hok ht
   exact ⟨by omega,q2⟩
  ·rw [decide_eq_false hok,if_neg (by simp),Aso (by omega) (by omega)]
   refine ⟨_,rfl,⟨w,rfl,by omega,fun t ht=> ?_⟩,?_⟩
   ·obtain ⟨i,_,rfl⟩:=List.mem_map.1 ht
    exact ⟨G8 _ _ _,Adw (n:=2) (by omega) _ _⟩
   ·have:2^w≤8:=Nat.le_trans (Nat.pow_le_pow_right (by omega) (show w≤3 by omega)) (by decide)
    simp;omega
 obtain ⟨q,eq,⟨a,ha,ha3,hrow⟩,hql⟩:=hq
 rw [eq]
 simp only [Option.bind_some]
 have hqt:Sq 1200 q:=⟨by omega,fun t ht=>by rw [(hrow t ht).1];exact ha3⟩
 have rest : ∃r d,((if cl>1 then some (decide (cl<6)) else some false:Option Bool).bind fun q15_35=>
   if q15_35=true then
    Gh.bind fun r17=>
     ask (InI (cl-2)) <|
     ask (0≤cl-2∧cl-2<(r17.length:Int)) <|
     (G3 { Size:=2,Ops:=[nth r17 (cl-2).toNat] } q.Arity q.Tuples).bind fun r20=>
     some (({ Arity:=q.Arity,Tuples:=r20.fst }:SRelation),d2)
   else some (q,d2))=some (r,d)∧Cur (k+210) d∧Sq 1200 r∧r.Arity≤3:=by
  by_cases h1:cl>1
  ·rw [if_pos h1]
   simp only [Option.bind_some]
   by_cases h6:cl<6
   ·rw [decide_eq_true h6,if_pos rfl]
    unfold Gh
    simp only [Option.bind_some]
    obtain ⟨s,hs⟩:=A1p (i:=(cl-2).toNat) (by omega)
    obtain ⟨T,b,eT,hT,hTr⟩:=Asy (a:={ Size:=2,Ops:=[nth [({ Arity:=2,Table:=[0,0,0,1] }:SOp),{ Arity:=2,Table:=[0,1,1,1] },{ Arity:=3,Table:=[0,1,1,0,1,0,0,1] },{ Arity:=3,Table:=[0,0,0,1,0,1,1,1] }] (cl-2).toNat] }) (n:=2) (w:=a) rfl (by omega) (by simp) (fun i hi=>by
     have:i=0:=by simp at hi;omega
     subst this
     exact ⟨s,hs⟩) (by omega) (gens:=q.Tuples) (by omega) (fun t ht=>hrow t ht)
    rw [Af (by unfold InI;omega),Af (by simp;omega),ha,eT]
    exact ⟨_,_,rfl,hd2.mono (by omega),⟨hT,fun t ht=>by rw [hTr t ht];exact ha3⟩,by dsimp only;omega⟩
   ·rw [decide_eq_false h6,if_neg (by simp)]
    exact ⟨_,_,rfl,hd2.mono (by omega),hqt,by omega⟩
  ·rw [if_neg h1]
   simp only [Option.bind_some]
   rw [if_neg (by simp)]
   exact ⟨_,_,rfl,hd2.mono (by omega),hqt,by omega⟩
 by_cases h1:cl≤1
 ·rw [if_pos h1]
  simp only [Option.bind_some]
  by_cases hl:(q.Tuples.length:Int)>0
  ·rw [decide_eq_true hl,if_pos rfl,ha,Aii (by omega)]
   simp only [Option.bind_some]
   obtain ⟨M,eM,hM,hMr⟩:=Aja (T:=q.Tuples) (t:=List.replicate a cl) (w:=a) (by omega) (by omega) (fun t ht=>(hrow t ht).1) (by simp)
   rw [eM]
   exact ⟨_,_,rfl,hd2.mono (by omega),⟨by dsimp only;omega,fun t ht=>by rw [hMr t ht];exact ha3⟩,by dsimp only;omega⟩
  ·rw [decide_eq_false hl,if_neg (by simp)]
   exact rest
 ·rw [if_neg h1]
  simp only [Option.bind_some]
  rw [if_neg (by simp)]
  exact rest
end Go.Proofs.YtjcekpmojnnmbaaGreat.Ax
namespace Go.Proofs.YtjcekpmojnnmbaaGreat.Ax
open Go Classical
section
variable {n r w:Nat} {f:SOp} {R:SRelation}
theorem Aq7 (h1:1≤n) (h8:n≤8) (hf:OpQ n r f) (hr0:0<r) (hfo:As7 n f) (hok:Dq n R) (hM:R.Tuples.length≤64) (hw:R.Arity=w) (hw3:w≤3) (hb:R.Tuples.length^r≤70000):F3 n f R=some (decide (Kl R.Tuples n w f r),true):=by
 have hL:=Bd
 have hr2:=hf.le
 have hp81 : ∀i,i≤r→R.Tuples.length^i≤262144:=fun i hi=>Nat.le_trans (Nat.pow_le_pow_left hM i) (Nat.le_trans (Nat.pow_le_pow_right (by omega) (show i≤3 by omega)) (by decide))
 have hfp:=hf.len
 have hfp2:n^r≤512:=Nat.le_trans (Nat.pow_le_pow_left h8 r) (Nat.le_trans (Nat.pow_le_pow_right (by omega) hr2) (by decide))
 have hrow : ∀t∈R.Tuples,t.length=w∧Ba t n:=fun t ht=>by
  obtain ⟨a1,a2⟩:=hok.row ht
  exact ⟨by omega,a2⟩
 have e3 : ∃a b,Bv n f R=some (a,b,decide (¬Kl R.Tuples n w f r)):=by
  by_cases hT0:0<R.Tuples.length
  ·exact Z7 h1 h8 hf hT0 hM hw hw3 hrow
  ·have h0:R.Tuples.length=0:=by omega
   have hz:R.Tuples.length^r=0:=by rw [h0];exact Nat.zero_pow hr0
   obtain ⟨S,e,hS⟩:=Abk (r:=R) (by omega) (fun t ht=>by rw [(hrow t ht).1];omega)
   unfold Bv
   rw [e]
   simp only [Option.bind_some]
   rw [hf.ar,hw,Af (by omega),Af (by omega)]
   have st : ∀X Y:List Int,Bb n f R S ((0:Int),X,Y)=some (.inr (.inr ())):=fun X Y=>by
    unfold Bb
    dsimp only
    rw [hf.ar,Yo 262144 (by omega) hp81 (by omega),hz]
    simp only [Option.bind_some]
    rw [if_neg (by omega)]
   rw [E1 (st _ _),decide_eq_false (show ¬ ¬Kl R.Tuples n w f r from fun hc=>hc (fun k hk=>by omega))]
   exact ⟨_,_,rfl⟩
 obtain ⟨x,y,e2⟩:=e3
 unfold F3 L6 Hf Nq
 rw [if_pos (show (n:Int)≥1 by omega),decide_eq_true (show (n:Int)≤8 by omega)]
 simp only [Option.bind_some,if_true]
 rw [Z8 (by omega) (fun t ht=>by rw [(hrow t ht).1];omega),decide_eq_true hok]
 simp only [Option.bind_some,if_true]
 rw [Axo (by omega) (by omega),decide_eq_true hfo]
 simp only [Option.bind_some,if_true]
 rw [hf.ar,Yo 262144 (by omega) hp81 (by omega)]
 simp only [Option.bind_some]
 have hb':((R.Tuples.length^r:Nat):Int)≤70000:=Int.ofNat_le.2 hb
 rw [decide_eq_true hb',if_pos rfl,e2]
 by_cases hc:Kl R.Tuples n w f r
 ·rw [decide_eq_false (fun hh=>hh hc),decide_eq_true hc];rfl
 ·rw [decide_eq_true hc,decide_eq_false hc];rfl
end
theorem Ava {a x y:Nat} (hx:x<2^a) (hy:y<2^a) (h:Bi 2 a x=Bi 2 a y):x=y:=by
 have e1:=Aaq (n:=2) (by omega) a x hx
 have e2:=Aaq (n:=2) (by omega) a y hy
 rw [h] at e1
 omega
theorem T6 {a M x:Nat} (hx:x<2^a):Bi 2 a x∈C0 a M↔M.testBit x=true:=by
 unfold C0
 rw [List.mem_map]
 constructor
 ·rintro ⟨y,hy,e⟩
  obtain ⟨h1,h2⟩:=Aev.1 hy
  rw [←Ava h1 hx e];exact h2
 ·intro h;exact ⟨x,Aev.2 ⟨hx,h⟩,rfl⟩
theorem Aia (a M:Nat):(C0 a M).length=(Aw a M).length:=by simp [C0]
theorem Awz (a M:Nat):(Aw a M).length≤2^a:=by
 unfold Aw
 exact Nat.le_trans (List.length_filter_le _ _) (by simp)
section
variable {a M:Nat} {f:SOp}
theorem Xn {i:Nat} (hi:i<(Aw a M).length):nth (C0 a M) i=Bi 2 a (nth (Aw a M) i):=by
 unfold C0;exact Qz _ hi
theorem Adl {i:Nat} (hi:i<(Aw a M).length):nth (Aw a M) i<2^a∧M.testBit (nth (Aw a M) i)=true:=Aev.1 (Av hi)
theorem Aqk {op:Nat→Nat→Nat} (hv : ∀x y,x<2^a→y<2^a→op x y<2^a∧((List.range a).map fun j=>nth f.Table (Dj 2 [nth (Bi 2 a x) j,nth (Bi 2 a y) j]).toNat)=Bi 2 a (op x y)) :
  decide (Kl (C0 a M) 2 a f 2)=kp2 op a M:=by
 have hl:=Aia a M
 have val : ∀i j,i<(Aw a M).length→j<(Aw a M).length→(Gb (C0 a M) 2 a f 2 (i*(Aw a M).length+j)∈C0 a M↔M.testBit (op (nth (Aw a M) i) (nth (Aw a M) j))=true):=fun i j hi hj=>by
  have hi':=Adl hi
  have hj':=Adl hj
  obtain ⟨v1,v2⟩:=hv _ _ hi'.1 hj'.1
  rw [←T6 v1,←v2]
  have e:Gb (C0 a M) 2 a f 2 (i*(Aw a M).length+j)=(List.range a).map fun q=>nth f.Table (Dj 2 [nth (Bi 2 a (nth (Aw a M) i)) q,nth (Bi 2 a (nth (Aw a M) j)) q]).toNat:=by
   unfold Gb hT
   rw [hl,Aht hi hj]
   refine List.map_congr_left fun q _=> ?_
   rw [show (List.range 2)=[0,1] from rfl]
   simp only [List.map_cons,List.map_nil]
   rw [show nth [(i:Int),(j:Int)] 0=(i:Int) from rfl,show nth [(i:Int),(j:Int)] 1=(j:Int) from rfl,Int.toNat_natCast,Int.toNat_natCast,Xn hi,Xn hj]
  rw [e]
 rw [Bool.eq_iff_iff,decide_eq_true_eq]
 unfold kp2
 simp only [List.all_eq_true]
 constructor
 ·intro h x hx y hy
  obtain ⟨i,hi,rfl⟩:=Hl.1 hx
  obtain ⟨j,hj,rfl⟩:=Hl.1 hy
  refine (val i j hi hj).1 (h _ ?_)
  rw [hl]
  have:=Nat.mul_le_mul_right (Aw a M).length (show i+1≤(Aw a M).length by omega)
  rw [Nat.succ_mul] at this
  rw [Nat.pow_succ,Nat.pow_one];omega
 ·intro h k hk
  rw [hl] at hk
  have h0:0<(Aw a M).length:=by
   rcases Nat.eq_zero_or_pos (Aw a M).length with h0 | h0
   ·rw [h0] at hk;simp at hk
   ·exact h0
  have hd:k/(Aw a M).length<(Aw a M).length:=by
   rw [Nat.pow_succ,Nat.pow_one] at hk
   exact Nat.div_lt_of_lt_mul hk
  have hm:=Nat.mod_lt k h0
  have e:k=k/(Aw a M).length*(Aw a M).length+k%(Aw a M).length:=by
   have:=Nat.div_add_mod k (Aw a M).length
   rw [Nat.mul_comm] at this;omega
  rw [e]
  exact (val _ _ hd hm).2 (h _ (Av hd) _ (Av hm))
theorem Asm {n x y z:Nat} (hx:x<n) (hy:y<n) (hz:z<n):Bi n 3 ((x*n+y)*n+z)=[(x:Int),(y:Int),(z:Int)]:=by
 have e1:((x*n+y)*n+z)/n=x*n+y:=by rw [Nat.mul_comm,Nat.mul_add_div (by omega),Nat.div_eq_of_lt hz];omega
 have e2:((x*n+y)*n+z)%n=z:=by rw [Nat.mul_comm,Nat.mul_add_mod,Nat.mod_eq_of_lt hz]
 show Bi n 2 (((x*n+y)*n+z)/n)++[((((x*n+y)*n+z)%n:Nat):Int)]=_
 rw [e1,e2,Aht hx hy]
 rfl
theorem Ahy {op:Nat→Nat→Nat→Nat} (hv : ∀x y z,x<2^a→y<2^a→z<2^a→op x y z<2^a∧((List.range a).map fun j=>nth f.Table (Dj 2 [nth (Bi 2 a x) j,nth (Bi 2 a y) j,nth (Bi 2 a z) j]).toNat)=Bi 2 a (op x y z)) :
  decide (Kl (C0 a M) 2 a f 3)=kp3 op a M:=by
 have hl:=Aia a M
 have val : ∀i j l,i<(Aw a M).length→j<(Aw a M).length→l<(Aw a M).length→(Gb (C0 a M) 2 a f 3 ((i*(Aw a M).length+j)*(Aw a M).length+l)∈C0 a M↔M.testBit (op (nth (Aw a M) i) (nth (Aw a M) j) (nth (Aw a M) l))=true):=fun i j l hi hj hl'=>by
  have hi':=Adl hi
  have hj':=Adl hj
  have hl'':=Adl hl'
  obtain ⟨v1,v2⟩:=hv _ _ _ hi'.1 hj'.1 hl''.1
  rw [←T6 v1,←v2]
  have e:Gb (C0 a M) 2 a f 3 ((i*(Aw a M).length+j)*(Aw a M).length+l)=(List.range a).map fun q=>nth f.Table (Dj 2 [nth (Bi 2 a (nth (Aw a M) i)) q,nth (Bi 2 a (nth (Aw a M) j)) q,nth (Bi 2 a (nth (Aw a M) l)) q]).toNat:=by
   unfold Gb hT
   rw [hl,Asm hi hj hl']
   refine List.map_congr_left fun q _=> ?_
   rw [show (List.range 3)=[0,1,2] from rfl]
   simp only [List.map_cons,List.map_nil]
   rw [show nth [(i:Int),(j:Int),(l:Int)] 0=(i:Int) from rfl,show nth [(i:Int),(j:Int),(l:Int)] 1=(j:Int) from rfl,show nth [(i:Int),(j:Int),(l:Int)] 2=(l:Int) from rfl,Int.toNat_natCast,Int.toNat_natCast,Int.toNat_natCast,Xn hi,Xn hj,Xn hl']
  rw [e]
 rw [Bool.eq_iff_iff,decide_eq_true_eq]
 unfold kp3
 simp only [List.all_eq_true]
 constructor
 ·intro h x hx y hy z hz
  obtain ⟨i,hi,rfl⟩:=Hl.1 hx
  obtain ⟨j,hj,rfl⟩:=Hl.1 hy
  obtain ⟨l,hl',rfl⟩:=Hl.1 hz
  refine (val i j l hi hj hl').1 (h _ ?_)
  rw [hl]
  have h1:=Nat.mul_le_mul_right (Aw a M).length (show i+1≤(Aw a M).length by omega)
  rw [Nat.succ_mul] at h1
  have h2:=Nat.mul_le_mul_right (Aw a M).length (show i*(Aw a M).length+j+1≤(Aw a M).length*(Aw a M).length by omega)
  rw [Nat.succ_mul] at h2
  rw [Nat.pow_succ,Nat.pow_succ,Nat.pow_one];omega
 ·intro h k hk
  rw [hl] at hk
  have h0:0<(Aw a M).length:=by
   rcases Nat.eq_zero_or_pos (Aw a M).length with h0 | h0
   ·rw [h0] at hk;simp at hk
   ·exact h0
  have hd2:k/(Aw a M).length/(Aw a M).length<(Aw a M).length:=by
   rw [Nat.div_div_eq_div_mul]
   rw [Nat.pow_succ,Nat.pow_succ,Nat.pow_one] at hk
   exact Nat.div_lt_of_lt_mul hk
  have hm:=Nat.mod_lt k h0
  have hm2:=Nat.mod_lt (k/(Aw a M).length) h0
  have e:k=k/(Aw a M).length*(Aw a M).length+k%(Aw a M).length:=by
   have:=Nat.div_add_mod k (Aw a M).length
   rw [Nat.mul_comm] at this;omega
  have e2:k/(Aw a M).length=k/(Aw a M).length/(Aw a M).length*(Aw a M).length+k/(Aw a M).length%(Aw a M).length:=by
   have:=Nat.div_add_mod (k/(Aw a M).length) (Aw a M).length
   rw [Nat.mul_comm] at this;omega
  rw [e,show k/(Aw a M).length*(Aw a M).length=(k/(Aw a M).length/(Aw a M).length*(Aw a M).length+k/(Aw a M).length%(Aw a M).length)*(Aw a M).length by rw [←e2]]
  exact (val _ _ _ hd2 hm2 hm).2 (h _ (Av hd2) _ (Av hm2) _ (Av hm))
end
def Ayn (T:List Int) (op:Nat→Nat→Nat) (a:Nat):Bool:=(List.range (2^a)).all fun x=>(List.range (2^a)).all fun y=>Nat.blt (op x y) (2^a)&&(((List.range a).map fun j=>nth T (Dj 2 [nth (Bi 2 a x) j,nth (Bi 2 a y) j]).toNat)==Bi 2 a (op x y))
def Anr (T:List Int) (op:Nat→Nat→Nat→Nat) (a:Nat):Bool:=(List.range (2^a)).all fun x=>(List.range (2^a)).all fun y=>(List.range (2^a)).all fun z=>Nat.blt (op x y z) (2^a)&&(((List.range a).map fun j=>nth T (Dj 2 [nth (Bi 2 a x) j,nth (Bi 2 a y) j,nth (Bi 2 a z) j]).toNat)==Bi 2 a (op x y z))
theorem App {T:List Int} {op:Nat→Nat→Nat} {a:Nat} (h:Ayn T op a=true) : ∀x y,x<2^a→y<2^a→op x y<2^a∧((List.range a).map fun j=>nth T (Dj 2 [nth (Bi 2 a x) j,nth (Bi 2 a y) j]).toNat)=Bi 2 a (op x y):=fun x y hx hy=>by
 have:=List.all_eq_true.1 (List.all_eq_true.1 h x (List.mem_range.2 hx)) y (List.mem_range.2 hy)
 rw [Bool.and_eq_true] at this
 exact ⟨Nat.lt_of_lt_of_le (Nat.lt_succ_self _) (Nat.le_of_ble_eq_true this.1),eq_of_beq this.2⟩
theorem Ai8 {T:List Int} {op:Nat→Nat→Nat→Nat} {a:Nat} (h:Anr T op a=true) : ∀x y z,x<2^a→y<2^a→z<2^a→op x y z<2^a∧((List.range a).map fun j=>nth T (Dj 2 [nth (Bi 2 a x) j,nth (Bi 2 a y) j,nth (Bi 2 a z) j]).toNat)=Bi 2 a (op x y z):=fun x y z hx hy hz=>by
 have:=List.all_eq_true.1 (List.all_eq_true.1 (List.all_eq_true.1 h x (List.mem_range.2 hx)) y (List.mem_range.2 hy)) z (List.mem_range.2 hz)
 rw [Bool.and_eq_true] at this
 exact ⟨Nat.lt_of_lt_of_le (Nat.lt_succ_self _) (Nat.le_of_ble_eq_true this.1),eq_of_beq this.2⟩
theorem A0m {a:Nat} (h:1≤a) (h3:a≤3):Ayn [0,0,0,1] Nat.land a=true:=by
 rcases (show a=1∨a=2∨a=3 by omega) with rfl | rfl | rfl
 ·decide +kernel
 ·decide +kernel
 ·decide +kernel
theorem Azr {a:Nat} (h:1≤a) (h3:a≤3):Ayn [0,1,1,1] Nat.lor a=true:=by
 rcases (show a=1∨a=2∨a=3 by omega) with rfl | rfl | rfl
 ·decide +kernel
 ·decide +kernel
 ·decide +kernel
theorem Az2 {a:Nat} (h:1≤a) (h3:a≤3):Anr [0,0,0,1,0,1,1,1] A3u a=true:=by
 rcases (show a=1∨a=2∨a=3 by omega) with rfl | rfl | rfl
 ·decide +kernel
 ·decide +kernel
 ·decide +kernel
end Go.Proofs.YtjcekpmojnnmbaaGreat.Ax
namespace Go.Proofs.YtjcekpmojnnmbaaGreat.Ax
open Go Classical
def A3s (x y z:Nat):Nat:=Nat.xor (Nat.xor x y) z
theorem A0u {a:Nat} (h:1≤a) (h3:a≤3):Anr [0,1,1,0,1,0,0,1] A3s a=true:=by
 rcases (show a=1∨a=2∨a=3 by omega) with rfl | rfl | rfl
 ·decide +kernel
 ·decide +kernel
 ·decide +kernel
def swM (a M:Nat):Nat:=Ve (fun k=>M.testBit (2^a-1-k)) (2^a)
def clB (a M:Nat):List Bool:=[M.testBit 0,M.testBit (2^a-1),kp2 Nat.land a M,kp2 Nat.lor a M,kp3 A3s a M,kp3 A3u a M]
def swL:List Bool→List Bool
 | [b0,b1,b2,b3,b4,b5]=>[b1,b0,b3,b2,b4,b5]
 | l=>l
def swT (t:List Int):List Int:=Wd t [1,0]
def As9 (a M:Nat):Bool:=(clB a (swM a M)==swL (clB a M))&&(Nat.beq (swM a (swM a M)) M&&(C0 a (swM a M)==((C0 a M).map swT).reverse))
theorem Ao7 {a M:Nat} (h:1≤a) (h3:a≤3) (hM:M<2^2^a):As9 a M=true:=by
 have c1:(List.range (2^2^1)).all (As9 1)=true:=by decide +kernel
 have c2:(List.range (2^2^2)).all (As9 2)=true:=by decide +kernel
 have c3:(List.range (2^2^3)).all (As9 3)=true:=by decide +kernel
 rcases (show a=1∨a=2∨a=3 by omega) with rfl | rfl | rfl
 ·exact List.all_eq_true.1 c1 M (List.mem_range.2 hM)
 ·exact List.all_eq_true.1 c2 M (List.mem_range.2 hM)
 ·exact List.all_eq_true.1 c3 M (List.mem_range.2 hM)
theorem Ax9 (a M:Nat):swM a M<2^2^a:=Y6 _ _
section
variable {a M:Nat} (h:1≤a) (h3:a≤3) (hM:M<2^2^a)
include h h3 hM
theorem A10:clB a (swM a M)=swL (clB a M):=by
 have:=Ao7 h h3 hM
 unfold As9 at this
 rw [Bool.and_eq_true] at this
 exact eq_of_beq this.1
theorem A08:swM a (swM a M)=M:=by
 have:=Ao7 h h3 hM
 unfold As9 at this
 rw [Bool.and_eq_true,Bool.and_eq_true] at this
 exact Nat.eq_of_beq_eq_true this.2.1
theorem Auk:C0 a (swM a M)=((C0 a M).map swT).reverse:=by
 have:=Ao7 h h3 hM
 unfold As9 at this
 rw [Bool.and_eq_true,Bool.and_eq_true] at this
 exact eq_of_beq this.2.2
end
theorem Q2 {a:Nat} (h3:a≤3) (M:Nat):(C0 a M).length≤8:=by
 have h1:=Awz a M
 have h2:2^a≤2^3:=Nat.pow_le_pow_right (by omega) h3
 rw [Aia];omega
theorem Ut {a:Nat} {M:Nat} {t:List Int} (ht:t∈C0 a M):t.length=a∧Ba t 2:=by
 obtain ⟨k,_,rfl⟩:=List.mem_map.1 ht
 exact ⟨G8 _ _ _,fun v hv=>Adw (n:=2) (by omega) a k v hv⟩
theorem Aoz {rows ys:List (List Int)} {w:Nat} (hn:rows.length≤1048576) (hw:w≤1000) (hr : ∀r∈rows,r.length=w) (hp:ys.Perm rows) (hs:A1v ys):F2 rows (fun a b=>C1 a b)=some ((),ys):=by
 have hL:=Bd
 refine Aqp ltT Avh A0b hn (fun x hx y hy=> ?_) hp ?_
 ·have e1:=hr x hx
  have e2:=hr y hy
  obtain ⟨c,e,hc⟩:=Yc (a:=x) (b:=y) (by omega) (by omega)
  refine ⟨c,e,decide_eq_decide.2 ⟨fun h=> ?_,fun h=> .inr ⟨by omega,hc.1 (by omega)⟩⟩⟩
  rcases h with h | ⟨_,h⟩
  ·omega
  ·have:=hc.2 h;omega
 ·exact hs.imp fun h=>decide_eq_false h
theorem Aon {rows:List (List Int)} (hn:rows.length≤1000) (hr : ∀r∈rows,r.length≤1000):Gz rows=some rows:=by
 have hL:=Bd
 unfold Gz
 have key:=Bk (body:=C2 rows) (fun i=>((i:Int),rows.take i)) rows.length rows (fun i hi=>by
  have h1:=hr _ (Av hi)
  unfold C2
  dsimp only
  rw [if_pos (by omega),Af (by omega),Int.toNat_natCast]
  unfold Jk
  rw [Af (by simp [Au];omega)]
  simp only [Option.bind_some]
  rw [Af (by simp [Au];omega),Af (by unfold InI;omega),Cx hi]
  rfl) (by
  unfold C2
  dsimp only
  rw [if_neg (by omega),List.take_length])
 have key':Ao (C2 rows) (0,Au (List Int))=some rows:=by simpa [Au] using key
 rw [key'];rfl
theorem Aoa {rows:List (List Int)} (hn:rows.length≤1000) (hr : ∀r∈rows,r.length≤1000) (hd:rows.Nodup):Ha rows=some rows:=by
 have hL:=Bd
 unfold Ha
 have key:=Bk (body:=C4 rows) (fun i=>((i:Int),rows.take i)) rows.length rows (fun i hi=>by
  unfold C4
  dsimp only
  rw [if_pos (by omega),Af (by omega),Int.toNat_natCast]
  by_cases h0:i=0
  ·subst h0
   rw [if_pos (by omega),Af (by simp;omega),Af (by unfold InI;omega),Cx hi]
   rfl
  ·have e:((i:Int)-1).toNat=i-1:=by omega
   have h1:=hr _ (Av (show i-1<rows.length by omega))
   have hne:nth rows (i-1)≠nth rows i:=fun hh=>by
    rw [Ea (by omega),Ea hi] at hh
    exact List.pairwise_iff_getElem.1 hd (i-1) i (by omega) hi (by omega) hh
   rw [if_neg (by omega),Af (by unfold InI;omega),Af (by omega),e,Abd (by omega),decide_eq_false hne]
   simp only [Option.bind_some]
   rw [if_neg (by simp),Af (by simp;omega),Af (by unfold InI;omega),Cx hi]
   rfl) (by
  unfold C4
  dsimp only
  rw [if_neg (by omega),List.take_length])
 have key':Ao (C4 rows) (0,Au (List Int))=some rows:=by simpa [Au] using key
 rw [key'];rfl
def As5 (xs:List (List Int)):Bool:=match xs with
 | []=>true
 | x::r=>(r.all fun y=>A2k x y)&&As5 r
theorem Aie : ∀ {xs:List (List Int)},As5 xs=true→A1v xs∧xs.Nodup
 | [],_=>⟨List.Pairwise.nil,List.nodup_nil⟩
 | x::r,h=>by
   simp only [As5,Bool.and_eq_true] at h
   obtain ⟨h1,h2⟩:=Aie h.2
   have hlt : ∀y∈r,tLt x y:=fun y hy=>Azg.1 (List.all_eq_true.1 h.1 y hy)
   exact ⟨List.pairwise_cons.2 ⟨fun y hy hh=>Vi _ (Yw (hlt y hy) hh),h1⟩,List.nodup_cons.2 ⟨fun hm=>Vi _ (hlt x hm),h2⟩⟩
theorem Apy {a M:Nat} (h:1≤a) (h3:a≤3) (hM:M<2^2^a):As5 (C0 a M)=true:=by
 have c1:(List.range (2^2^1)).all (fun M=>As5 (C0 1 M))=true:=by decide +kernel
 have c2:(List.range (2^2^2)).all (fun M=>As5 (C0 2 M))=true:=by decide +kernel
 have c3:(List.range (2^2^3)).all (fun M=>As5 (C0 3 M))=true:=by decide +kernel
 rcases (show a=1∨a=2∨a=3 by omega) with rfl | rfl | rfl
 ·exact List.all_eq_true.1 c1 M (List.mem_range.2 hM)
 ·exact List.all_eq_true.1 c2 M (List.mem_range.2 hM)
 ·exact List.all_eq_true.1 c3 M (List.mem_range.2 hM)
theorem Axk {a M:Nat} (h:1≤a) (h3:a≤3) (hM:M<2^2^a):Do { Arity:=(a:Int),Tuples:=C0 a M } [1,0]=some { Arity:=(a:Int),Tuples:=C0 a (swM a M) }:=by
 have hL:=Bd
 have hlen:=Q2 h3 M
 unfold Do
 have key:=Bk (body:=B8 { Arity:=(a:Int),Tuples:=C0 a M } [1,0]) (fun i=>((i:Int),((C0 a M).take i).map swT)) (C0 a M).length ((C0 a M).map swT) (fun i hi=>by
  obtain ⟨r1,r2⟩:=Ut (Av hi)
  unfold B8
  dsimp only
  rw [if_pos (by omega),Af (by omega),Int.toNat_natCast,Awj (by omega) (by simpa using r2)]
  simp only [Option.bind_some]
  rw [Af (by simp;omega),Af (by unfold InI;omega),Cx hi,List.map_append]
  rfl) (by
  unfold B8
  dsimp only
  rw [if_neg (by omega),List.take_length])
 have key':Ao (B8 { Arity:=(a:Int),Tuples:=C0 a M } [1,0]) (0,Au (List Int))=some ((C0 a M).map swT):=by simpa [Au] using key
 rw [key']
 simp only [Option.bind_some]
 have hrow : ∀r∈(C0 a M).map swT,r.length=a:=fun r hr=>by
  obtain ⟨t,ht,rfl⟩:=List.mem_map.1 hr
  unfold swT Wd
  rw [List.length_map]
  exact (Ut ht).1
 have hl2:((C0 a M).map swT).length≤8:=by rw [List.length_map];exact hlen
 obtain ⟨s1,s2⟩:=Aie (Apy h h3 (Ax9 a M))
 have hl3:=Q2 h3 (swM a M)
 have hperm:(C0 a (swM a M)).Perm ((C0 a M).map swT):=by
  rw [Auk h h3 hM]
  exact List.reverse_perm _
 unfold Gv Gu
 rw [Aon (by omega) (fun r hr=>by rw [hrow r hr];omega)]
 simp only [Option.bind_some]
 rw [Aoz (w:=a) (by omega) (by omega) hrow hperm s1]
 simp only [Option.bind_some]
 rw [Aoa (by omega) (fun r hr=>by rw [(Ut hr).1];omega) s2]
 rfl
end Go.Proofs.YtjcekpmojnnmbaaGreat.Ax
namespace Go.Proofs.YtjcekpmojnnmbaaGreat.Ax
open Go Classical
theorem Ap1 {line:List (List Int)} {xs:List Int} (hl:xs.length≤1048576) (hx:Ba xs line.length):Hq line xs=some (xs.map fun i=>nth line i.toNat):=by
 have hL:=Bd
 unfold Hq
 have key:=Bk (body:=Dg line xs) (fun i=>((i:Int),(xs.take i).map fun i=>nth line i.toNat)) xs.length (xs.map fun i=>nth line i.toNat) (fun i hi=>by
  have h1:=hx _ (Av hi)
  unfold Dg
  dsimp only
  rw [if_pos (by omega),Af (by omega),Int.toNat_natCast,Af (by omega),Af (by simp;omega),Af (by unfold InI;omega),Cx hi,List.map_append]
  rfl) (by
  unfold Dg
  dsimp only
  rw [if_neg (by omega),List.take_length])
 have key':Ao (Dg line xs) (0,Au (List Int))=some (xs.map fun i=>nth line i.toNat):=by simpa [Au] using key
 rw [key'];rfl
theorem Anc {n r k:Nat} {xs:List Int} (hn:0<n) (hl:xs.length=r) (hx:Ba xs n) (e:Dj n xs=(k:Int)):xs=Bi n r k:=by
 have:=Ud hn r xs hl hx
 rw [e,Int.toNat_natCast] at this
 exact this.symm
section
variable {n r w:Nat} {f:SOp} {R:SRelation}
theorem Asj {k:Nat}:apV ((Bi R.Tuples.length r k).map fun i=>nth R.Tuples i.toNat) n w f r=Gb R.Tuples n w f r k:=by
 unfold apV Gb
 refine List.map_congr_left fun j _=> ?_
 have e:hT n r (fun i=>nth (nth ((Bi R.Tuples.length r k).map fun i=>nth R.Tuples i.toNat) i) j)=hT n r fun i=>nth (nth R.Tuples (nth (Bi R.Tuples.length r k) i).toNat) j:=by
  refine Aw0 fun i hi=> ?_
  rw [Qz _ (by rw [G8];exact hi)]
 rw [e]
theorem Aq4 (_h1:1≤n) (h8:n≤8) (hf:OpQ n r f) (hr0:0<r) (hok:Dq n R) (hM:R.Tuples.length≤64) (hw:R.Arity=w) (hw3:w≤3):F4 n f R=some (decide (Kl R.Tuples n w f r)):=by
 have hL:=Bd
 have hr2:=hf.le
 have hrow : ∀t∈R.Tuples,t.length=w∧Ba t n:=fun t ht=>by
  obtain ⟨a1,a2⟩:=hok.row ht
  exact ⟨by omega,a2⟩
 unfold F4 Kr
 rw [hf.ar,Af (by omega),if_neg (by omega)]
 simp only [Option.bind_some]
 by_cases hT0:0<R.Tuples.length
 ·rw [decide_eq_true (show (R.Tuples.length:Int)>0 by omega)]
  have hpos:0<R.Tuples.length^r:=Nat.pow_pos hT0
  have hrep:List.replicate ((r:Int)).toNat (0:Int)=Bi R.Tuples.length r 0:=by
   refine Anc hT0 (by simp) (fun z hz=> ?_) ?_
   ·have:=List.eq_of_mem_replicate hz;omega
   ·rw [Int.toNat_natCast]
    have:=Aje R.Tuples.length [] r
    rw [List.nil_append] at this
    rw [this];simp [Dj]
  rw [hrep]
  obtain ⟨t,e,ht⟩:=D5 (body:=Dh n f R) (fun s=>(∃k:Nat,s=(true,Bi R.Tuples.length r k)∧k<R.Tuples.length^r ∧ ∀j,j<k→Gb R.Tuples n w f r j∈R.Tuples)∨(s.1=false∧Kl R.Tuples n w f r)) (fun s=>if s.1=true then R.Tuples.length^r+1-(Dj R.Tuples.length s.2).toNat else 0) (fun t=>match t with
   | .inl _=>¬Kl R.Tuples n w f r
   | .inr _=>Kl R.Tuples n w f r) (by
   rintro s (⟨k,rfl,hk,hall⟩ | ⟨h2,h3⟩)
   ·have hin:Ba (Bi R.Tuples.length r k) R.Tuples.length:=fun v hv=>Adw hT0 r k v hv
    have hch : ∀t∈(Bi R.Tuples.length r k).map (fun i=>nth R.Tuples i.toNat),t.length=w∧Ba t n:=fun t ht=>by
     obtain ⟨i,hi,rfl⟩:=List.mem_map.1 ht
     have:=hin i hi
     exact hrow _ (Av (by omega))
    have hval:=Aa6 (a:={ Size:=(n:Int),Ops:=[f] }) (n:=n) (r:=r) (w:=w) (i:=0) rfl h8 (by simp) (by simp) (by exact hf) (T:=(Bi R.Tuples.length r k).map fun i=>nth R.Tuples i.toNat) (by rw [List.length_map,G8]) hch (by omega)
    have ev:apV ((Bi R.Tuples.length r k).map fun i=>nth R.Tuples i.toNat) n w (nth [f] 0) r=Gb R.Tuples n w f r k:=Asj
    dsimp only at hval
    rw [ev] at hval
    unfold Dh
    dsimp only
    rw [if_pos rfl,Ap1 (by rw [G8];omega) hin]
    simp only [Option.bind_some]
    unfold Jg
    rw [hw,show ((0:Int))=((0:Nat):Int) from rfl,hval.1]
    simp only [Option.bind_some]
    rw [Ap6 hok (by omega) h8 (by rw [Yv,hw]) hval.2]
    simp only [Option.bind_some]
    by_cases hm:Gb R.Tuples n w f r k∈R.Tuples
    ·rw [decide_eq_true hm,if_pos rfl]
     obtain ⟨ys,b,e1,e2,e3,e4,e5⟩:=Amy (xs:=Bi R.Tuples.length r k) (r:=r) (N:=R.Tuples.length) (G8 _ _ _) (by omega) hT0 (by omega) hin
     rw [e1]
     have hk2:=Aw9 (n:=R.Tuples.length) r k hk
     refine .inl ⟨_,rfl,?_,?_⟩
     ·cases b with
      | true=>
        refine .inl ⟨k+1,?_,?_,fun j hj=> ?_⟩
        ·dsimp only
         rw [Anc (k:=k+1) hT0 e2 e3 (by rw [e4 rfl,hk2];push_cast;rfl)]
        ·obtain ⟨c,h9,h10⟩:=Pj (m:=R.Tuples.length) r ys e2 e3
         rw [e4 rfl,hk2] at h9
         omega
        ·by_cases ejk:j=k
         ·subst ejk;exact hm
         ·exact hall j (by omega)
      | false=>
        refine .inr ⟨rfl,fun j hj=> ?_⟩
        have h9:=e5 rfl
        rw [hk2] at h9
        by_cases ejk:j=k
        ·subst ejk;exact hm
        ·exact hall j (by omega)
     ·dsimp only
      rw [if_pos trivial,hk2]
      cases b with
      | true=>rw [if_pos rfl,e4 rfl,hk2];omega
      | false=>rw [if_neg (by simp)];omega
    ·rw [decide_eq_false hm,if_neg (by simp)]
     exact .inr ⟨_,rfl,fun hkp=>hm (hkp k hk)⟩
   ·obtain ⟨m,xs⟩:=s
    dsimp only at h2
    subst h2
    unfold Dh
    dsimp only
    rw [if_neg (by simp)]
    exact .inr ⟨_,rfl,h3⟩) (s:=(true,Bi R.Tuples.length r 0)) (.inl ⟨0,rfl,hpos,fun j hj=>by omega⟩)
  rw [e]
  cases t with
  | inl v=>rw [decide_eq_false ht];rfl
  | inr v=>rw [decide_eq_true ht];rfl
 ·have h0:R.Tuples.length=0:=by omega
  have hz:R.Tuples.length^r=0:=by rw [h0];exact Nat.zero_pow hr0
  rw [decide_eq_false (show ¬(R.Tuples.length:Int)>0 by omega),E1 (t:= .inr ()) (by unfold Dh;dsimp only;rw [if_neg (by simp)]),decide_eq_true (show Kl R.Tuples n w f r from fun k hk=>by omega)]
  rfl
end
end Go.Proofs.YtjcekpmojnnmbaaGreat.Ax
namespace Go.Proofs.YtjcekpmojnnmbaaGreat.Ax
open Go Classical
def Qh (v n:Int) (c:SConstraint):Prop:=Dq n c.Rel∧(c.Scope.length:Int)=c.Rel.Arity∧Ba c.Scope v
def O5 (net:SNetwork):Prop:=(0≤net.Vars∧net.Vars≤9)∧(1≤net.Size∧net.Size≤4)∧net.Constraints.length≤40 ∧ ∀i,i<net.Constraints.length→Qh net.Vars net.Size (nth net.Constraints i)
def Ahh (c:SConstraint):Prop:=c.Scope.length≤1000000∧c.Rel.Tuples.length≤1000000 ∧ ∀t∈c.Rel.Tuples,t.length≤1000000
def Va (net:SNetwork):Prop:=net.Constraints.length≤1000000 ∧ ∀c∈net.Constraints,Ahh c
theorem Agq {v:Int} {n:Nat} {c:SConstraint} (hc:Ahh c):E4 v n c=some (decide (Qh v n c)):=by
 have hL:=Bd
 unfold E4
 rw [Z8 (by have:=hc.2.1;omega) (fun t ht=>by have:=hc.2.2 t ht;omega)]
 simp only [Option.bind_some]
 by_cases h1:Dq n c.Rel
 ·rw [decide_eq_true h1,if_pos rfl]
  by_cases h2:(c.Scope.length:Int)=c.Rel.Arity
  ·rw [if_pos h2,Ahw _ _ (by have:=hc.1;omega)]
   simp only [Option.bind_some]
   congr 1
   rw [decide_eq_decide]
   exact ⟨fun h=>⟨h1,h2,h⟩,fun h=>h.2.2⟩
  ·rw [if_neg h2,decide_eq_false (fun h:Qh v n c=>h2 h.2.1)]
 ·rw [decide_eq_false h1,if_neg (by simp),decide_eq_false (fun h:Qh v n c=>h1 h.1)]
theorem Ayz {v n:Nat} (h8:n≤8) (hv:v≤1000) {c:SConstraint} (hc:Ahh c):Mj v n c=some (decide (Qh v n c)):=by
 have hL:=Bd
 unfold Mj
 rw [Amo (by have:=hc.2.1;omega) (fun t ht=>by have:=hc.2.2 t ht;omega) h8]
 simp only [Option.bind_some]
 by_cases h1:Dq n c.Rel
 ·rw [decide_eq_true h1,if_pos rfl]
  by_cases h2:(c.Scope.length:Int)=c.Rel.Arity
  ·rw [if_pos h2,Abx v _ (by have:=hc.1;omega) (by omega)]
   simp only [Option.bind_some]
   congr 1
   rw [decide_eq_decide]
   exact ⟨fun h=>⟨h1,h2,h⟩,fun h=>h.2.2⟩
  ·rw [if_neg h2,decide_eq_false (fun h:Qh v n c=>h2 h.2.1)]
 ·rw [decide_eq_false h1,if_neg (by simp),decide_eq_false (fun h:Qh v n c=>h1 h.1)]
section
variable {net:SNetwork} (hs:Va net)
include hs
theorem Ada:Fe net=some (decide (O5 net)):=by
 have hL:=Bd
 have hsl:=hs.1
 unfold Fe
 by_cases h1:net.Vars<0
 ·rw [if_pos h1,decide_eq_false (fun h:O5 net=>by have:=h.1.1;omega)];rfl
 rw [if_neg h1]
 by_cases h2:net.Vars>9
 ·rw [if_pos h2,decide_eq_false (fun h:O5 net=>by have:=h.1.2;omega)];rfl
 rw [if_neg h2]
 unfold Fr
 by_cases h3:net.Size≥1
 ·rw [if_pos h3]
  simp only [Option.bind_some]
  by_cases h4:net.Size≤4
  ·rw [decide_eq_true h4,if_pos rfl]
   by_cases h5:(net.Constraints.length:Int)>40
   ·rw [if_pos h5,decide_eq_false (fun h:O5 net=>by have:=h.2.2.1;omega)];rfl
   ·rw [if_neg h5]
    simp only [Option.bind_some]
    obtain ⟨n,hn⟩:=Int.eq_ofNat_of_zero_le (show 0≤net.Size by omega)
    rw [Aig (body:=Dz net) net.Constraints.length (fun i=>Qh net.Vars net.Size (nth net.Constraints i)) (P := ∀i,i<net.Constraints.length→Qh net.Vars net.Size (nth net.Constraints i)) Iff.rfl (fun i hi=>by
     unfold Dz
     rw [if_pos (by omega),Af (by omega),Int.toNat_natCast,hn,Agq (hs.2 _ (Av hi))]
     simp only [Option.bind_some]
     by_cases hc:Qh net.Vars n (nth net.Constraints i)
     ·rw [decide_eq_true hc,if_pos rfl,if_pos hc,Af (by unfold InI;omega)];rfl
     ·rw [decide_eq_false hc,if_neg (by simp),if_neg hc]) (by
     unfold Dz
     rw [if_neg (by omega)])]
    by_cases hall : ∀i,i<net.Constraints.length→Qh net.Vars net.Size (nth net.Constraints i)
    ·rw [if_pos hall,decide_eq_true (show O5 net from ⟨⟨by omega,by omega⟩,⟨h3,h4⟩,by omega,hall⟩)];rfl
    ·rw [if_neg hall,decide_eq_false (fun h:O5 net=>hall h.2.2.2)];rfl
  ·rw [decide_eq_false h4,if_neg (by simp),decide_eq_false (fun h:O5 net=>h4 h.2.1.2)];rfl
 ·rw [if_neg h3,decide_eq_false (fun h:O5 net=>h3 h.2.1.1)];rfl
theorem Asn:I7 net=some (decide (O5 net)):=by
 have hL:=Bd
 have hsl:=hs.1
 unfold I7
 rw [Aa2]
 simp only [Option.bind_some]
 by_cases h1:0≤net.Vars∧net.Vars≤9
 ·rw [decide_eq_true h1,if_pos rfl,Aa2]
  simp only [Option.bind_some]
  by_cases h4:1≤net.Size∧net.Size≤4
  ·rw [decide_eq_true h4,if_pos rfl]
   by_cases h5:(net.Constraints.length:Int)>40
   ·rw [if_pos h5,decide_eq_false (fun h:O5 net=>by have:=h.2.2.1;omega)];rfl
   ·rw [if_neg h5]
    simp only [Option.bind_some]
    obtain ⟨n,hn⟩:=Int.eq_ofNat_of_zero_le (show 0≤net.Size by omega)
    obtain ⟨v,hv⟩:=Int.eq_ofNat_of_zero_le h1.1
    rw [Aig (body:=Et net) net.Constraints.length (fun i=>Qh net.Vars net.Size (nth net.Constraints i)) (P := ∀i,i<net.Constraints.length→Qh net.Vars net.Size (nth net.Constraints i)) Iff.rfl (fun i hi=>by
     unfold Et
     rw [if_pos (by omega),Af (by omega),Int.toNat_natCast,hn,hv,Ayz (by omega) (by omega) (hs.2 _ (Av hi))]
     simp only [Option.bind_some]
     by_cases hc:Qh v n (nth net.Constraints i)
     ·rw [decide_eq_true hc,if_pos rfl,if_pos hc,Af (by unfold InI;omega)];rfl
     ·rw [decide_eq_false hc,if_neg (by simp),if_neg hc]) (by
     unfold Et
     rw [if_neg (by omega)])]
    by_cases hall : ∀i,i<net.Constraints.length→Qh net.Vars net.Size (nth net.Constraints i)
    ·rw [if_pos hall,decide_eq_true (show O5 net from ⟨h1,h4,by omega,hall⟩)];rfl
    ·rw [if_neg hall,decide_eq_false (fun h:O5 net=>hall h.2.2.2)];rfl
  ·rw [decide_eq_false h4,if_neg (by simp),decide_eq_false (fun h:O5 net=>h4 h.2.1)];rfl
 ·rw [decide_eq_false h1,if_neg (by simp),decide_eq_false (fun h:O5 net=>h1 h.1)];rfl
end
end Go.Proofs.YtjcekpmojnnmbaaGreat.Ax
namespace Go.Proofs.YtjcekpmojnnmbaaGreat.Ax
open Go Classical
theorem Al3 {a:Nat} (h:a≤1000) (x:Int):Dl a x=some (List.replicate a x):=by
 have hL:=Bd
 unfold Dl
 rw [Af (by omega),Int.toNat_natCast]
 have key:=Bk (body:=B9 (a:Int) x) (fun i=>((i:Int),List.replicate i x++List.replicate (a-i) 0)) a (List.replicate a x) (fun i hi=>by
  unfold B9
  dsimp only
  rw [Int.toNat_natCast,if_pos (by omega),Af (by simp;omega),Af (by unfold InI;omega),Int.toNat_natCast,A1f _ _ _ hi (by simp),List.replicate_succ']
  rfl) (by
  unfold B9
  dsimp only
  rw [Int.toNat_natCast,if_neg (by omega),Nat.sub_self]
  simp)
 have key':Ao (B9 (a:Int) x) (0,List.replicate a 0)=some (List.replicate a x):=by simpa using key
 rw [key'];rfl
theorem Awc {r:SRelation} {t:List Int} (hl:r.Tuples.length≤1000) (ht:t.length≤1000):Hw r t=some (decide (t∈r.Tuples)):=by
 have hL:=Bd
 unfold Hw
 have key:=M1 (body:=Dm r t) (fun i=>(i:Int)) r.Tuples.length (fun i=>t=nth r.Tuples i) () () (fun i hi hb=>by
  unfold Dm
  rw [if_pos (by omega),Af (by omega),Int.toNat_natCast,Abd (by omega),decide_eq_false hb]
  simp only [Option.bind_some]
  rw [if_neg (by simp),Af (by unfold InI;omega)]
  rfl) (fun i hi hb=>by
  unfold Dm
  rw [if_pos (by omega),Af (by omega),Int.toNat_natCast,Abd (by omega),decide_eq_true hb]
  simp only [Option.bind_some,if_true]) (by
  unfold Dm
  rw [if_neg (by omega)]) 0 (Nat.zero_le _)
 have key':Ao (Dm r t) 0=_:=key
 refine (Ug key' true false).trans ?_
 by_cases hm:t∈r.Tuples
 ·obtain ⟨i,hi,e⟩:=Hl.1 hm
  rw [if_pos ⟨i,Nat.zero_le _,hi,e.symm⟩,decide_eq_true hm]
 ·rw [if_neg (fun ⟨i,_,hi,e⟩=>hm (e▸Av hi)),decide_eq_false hm]
theorem Awf {a:Nat} (h:1≤a) (h3:a≤3):List.replicate a (0:Int)=Bi 2 a 0∧List.replicate a (1:Int)=Bi 2 a (2^a-1):=by
 rcases (show a=1∨a=2∨a=3 by omega) with rfl | rfl | rfl
 ·decide +kernel
 ·decide +kernel
 ·decide +kernel
def Qt:List SOp:=[{ Arity:=2,Table:=[0,0,0,1] },{ Arity:=2,Table:=[0,1,1,1] },{ Arity:=3,Table:=[0,1,1,0,1,0,0,1] },{ Arity:=3,Table:=[0,0,0,1,0,1,1,1] }]
theorem Ama {n r w:Nat} {f:SOp} {R:SRelation} (h1:1≤n) (h8:n≤8) (hf:OpQ n r f) (hr0:0<r) (hok:Dq n R) (hM:R.Tuples.length≤64) (hw:R.Arity=w) (hw3:w≤3) : ∃a b,Bv n f R=some (a,b,decide (¬Kl R.Tuples n w f r)):=by
 have hL:=Bd
 have hr2:=hf.le
 have hp81 : ∀i,i≤r→R.Tuples.length^i≤262144:=fun i hi=>Nat.le_trans (Nat.pow_le_pow_left hM i) (Nat.le_trans (Nat.pow_le_pow_right (by omega) (show i≤3 by omega)) (by decide))
 have hrow : ∀t∈R.Tuples,t.length=w∧Ba t n:=fun t ht=>by
  obtain ⟨a1,a2⟩:=hok.row ht
  exact ⟨by omega,a2⟩
 by_cases hT0:0<R.Tuples.length
 ·exact Z7 h1 h8 hf hT0 hM hw hw3 hrow
 ·have h0:R.Tuples.length=0:=by omega
  have hz:R.Tuples.length^r=0:=by rw [h0];exact Nat.zero_pow hr0
  obtain ⟨S,e,hS⟩:=Abk (r:=R) (by omega) (fun t ht=>by rw [(hrow t ht).1];omega)
  unfold Bv
  rw [e]
  simp only [Option.bind_some]
  rw [hf.ar,hw,Af (by omega),Af (by omega)]
  have st : ∀X Y:List Int,Bb n f R S ((0:Int),X,Y)=some (.inr (.inr ())):=fun X Y=>by
   unfold Bb
   dsimp only
   rw [hf.ar,Yo 262144 (by omega) hp81 (by omega),hz]
   simp only [Option.bind_some]
   rw [if_neg (by omega)]
  rw [E1 (st _ _),decide_eq_false (show ¬ ¬Kl R.Tuples n w f r from fun hc=>hc (fun k hk=>by omega))]
  exact ⟨_,_,rfl⟩
section
variable {a M:Nat} (h:1≤a) (h3:a≤3) (hM:M<2^2^a)
include h h3
theorem Yd (hM:M<2^2^a):Dq (2:Nat) { Arity:=(a:Int),Tuples:=C0 a M }:=by
 refine ⟨by dsimp only;omega,by dsimp only;omega,fun i hi=> ?_⟩
 obtain ⟨r1,r2⟩:=Ut (Av hi)
 refine ⟨by dsimp only;omega,r2,fun h0=> ?_⟩
 obtain ⟨s1,s2⟩:=Aie (Apy h h3 hM)
 dsimp only at hi ⊢
 have e1:=List.pairwise_iff_getElem.1 s1 (i-1) i (by omega) hi (by omega)
 have e2:=List.pairwise_iff_getElem.1 s2 (i-1) i (by omega) hi (by omega)
 rw [←Ea hi,←Ea (show i-1<(C0 a M).length by omega)] at e1 e2
 have r3:=(Ut (Av (show i-1<(C0 a M).length by omega))).1
 rcases Ahm (nth (C0 a M) (i-1)) (nth (C0 a M) i) with c | c | c
 ·rcases c with c | ⟨_,c⟩
  ·omega
  ·exact c
 ·exact absurd c e2
 ·exact absurd c e1
theorem Am3:decide (List.replicate a (0:Int)∈C0 a M)=M.testBit 0∧decide (List.replicate a (1:Int)∈C0 a M)=M.testBit (2^a-1):=by
 have hp:0<2^a:=Nat.pow_pos (by omega)
 obtain ⟨e0,e1⟩:=Awf h h3
 rw [e0,e1]
 constructor
 ·rw [Bool.eq_iff_iff,decide_eq_true_eq,T6 hp]
 ·rw [Bool.eq_iff_iff,decide_eq_true_eq,T6 (show 2^a-1<2^a by omega)]
theorem Ad5 {i:Nat} (hi:i<4) : ∃r,OpQ 2 r (nth Qt i)∧0<r∧decide (Kl (C0 a M) 2 a (nth Qt i) r)=nth (clB a M) (2+i):=by
 obtain ⟨r,hr⟩:=A1p hi
 have hr':OpQ 2 r (nth Qt i):=hr
 rcases (show i=0∨i=1∨i=2∨i=3 by omega) with rfl | rfl | rfl | rfl
 ·have:r=2:=by have:=hr'.ar;simp [Qt,nth] at this;omega
  subst this
  exact ⟨2,hr',by omega,Aqk (App (A0m h h3))⟩
 ·have:r=2:=by have:=hr'.ar;simp [Qt,nth] at this;omega
  subst this
  exact ⟨2,hr',by omega,Aqk (App (Azr h h3))⟩
 ·have:r=3:=by have:=hr'.ar;simp [Qt,nth] at this;omega
  subst this
  exact ⟨3,hr',by omega,Ahy (Ai8 (A0u h h3))⟩
 ·have:r=3:=by have:=hr'.ar;simp [Qt,nth] at this;omega
  subst this
  exact ⟨3,hr',by omega,Ahy (Ai8 (Az2 h h3))⟩
include hM
theorem Axi {i:Nat} (hi:i<6):Ma { Arity:=(a:Int),Tuples:=C0 a M } (i:Int)=some (nth (clB a M) i):=by
 have hL:=Bd
 have hfew:=Q2 h3 M
 have hok:=Yd h h3 hM
 unfold Ma
 by_cases h1:i≤1
 ·rw [if_pos (by omega)]
  have key:=Bk (body:=Ez { Arity:=(a:Int),Tuples:=C0 a M } (i:Int)) (fun j=>((j:Int),List.replicate j (i:Int))) a (List.replicate a (i:Int)) (fun j hj=>by
   unfold Ez
   dsimp only
   rw [if_pos (by omega),Af (by simp;omega),Af (by unfold InI;omega),List.replicate_succ']
   rfl) (by
   unfold Ez
   dsimp only
   rw [if_neg (by omega)])
  have key':Ao (Ez { Arity:=(a:Int),Tuples:=C0 a M } (i:Int)) (0,Au Int)=some (List.replicate a (i:Int)):=key
  rw [key']
  simp only [Option.bind_some]
  have hin:Ba (List.replicate a (i:Int)) (2:Nat):=fun z hz=>by have:=List.eq_of_mem_replicate hz;omega
  rw [Ap6 hok (by dsimp only;omega) (by omega) (by dsimp only;simp) hin]
  simp only [Option.bind_some]
  obtain ⟨c0,c1⟩:=Am3 (M:=M) h h3
  rcases (show i=0∨i=1 by omega) with rfl | rfl
  ·exact congrArg some c0
  ·exact congrArg some c1
 ·rw [if_neg (by omega)]
  obtain ⟨j,rfl⟩ : ∃j,i=2+j:=⟨i-2,by omega⟩
  have e:Gh=some Qt:=rfl
  rw [e]
  simp only [Option.bind_some]
  obtain ⟨r,hr,hr0,hk⟩:=Ad5 (M:=M) h h3 (show j<4 by omega)
  have hb:=Aq4 (n:=2) (r:=r) (w:=a) (by omega) (by omega) hr hr0 hok (by dsimp only;omega) rfl h3
  rw [Af (by unfold InI;omega),Af (by simp [Qt];omega),show (((2+j:Nat):Int)-2).toNat=j by omega]
  have hb':F4 2 (nth Qt j) { Arity:=(a:Int),Tuples:=C0 a M }=some (decide (Kl (C0 a M) 2 a (nth Qt j) r)):=hb
  rw [hb',hk]
  rfl
theorem Ara {i:Nat} (hi:i<4):Hn 2 [{ Arity:=(a:Int),Tuples:=C0 a M }] (nth Qt i)=some (nth (clB a M) (2+i)):=by
 have hfew:=Q2 h3 M
 have hok:=Yd h h3 hM
 obtain ⟨r,hr,hr0,hk⟩:=Ad5 (M:=M) h h3 hi
 obtain ⟨x,y,hb⟩:=Ama (n:=2) (r:=r) (w:=a) (by omega) (by omega) hr hr0 hok (by dsimp only;omega) rfl h3
 have hb':Bv 2 (nth Qt i) { Arity:=(a:Int),Tuples:=C0 a M }=some (x,y,decide (¬Kl (C0 a M) 2 a (nth Qt i) r)):=hb
 unfold Hn
 rw [←hk]
 have n0:nth [({ Arity:=(a:Int),Tuples:=C0 a M }:SRelation)] (Int.toNat 0)={ Arity:=(a:Int),Tuples:=C0 a M }:=rfl
 by_cases hc:Kl (C0 a M) 2 a (nth Qt i) r
 ·rw [Fl (s':=1) (by unfold Eh;rw [if_pos (by simp),Af (by simp),n0,hb',decide_eq_false (fun hh=>hh hc)];simp only [Option.bind_some];rw [if_neg (by simp),Af (by unfold InI;omega)];rfl),E1 (t:= .inr ()) (by unfold Eh;rw [if_neg (by simp)]),decide_eq_true hc]
  rfl
 ·rw [E1 (t:= .inl ()) (by unfold Eh;rw [if_pos (by simp),Af (by simp),n0,hb',decide_eq_true hc];simp only [Option.bind_some,if_true]),decide_eq_false hc]
  rfl
omit hM in
theorem Ard {x:Nat} (hx:x<2):((Dl (a:Int) (x:Int)).bind fun r6=>Hw { Arity:=(a:Int),Tuples:=C0 a M } r6)=some (nth (clB a M) x):=by
 have hfew:=Q2 h3 M
 obtain ⟨c0,c1⟩:=Am3 (M:=M) h h3
 rw [Al3 (by omega)]
 simp only [Option.bind_some]
 rw [Awc (by dsimp only;omega) (by simp;omega)]
 rcases (show x=0∨x=1 by omega) with rfl | rfl
 ·exact congrArg some c0
 ·exact congrArg some c1
end
end Go.Proofs.YtjcekpmojnnmbaaGreat.Ax
namespace Go.Proofs.YtjcekpmojnnmbaaGreat.Ax
open Go Classical
end Go.Proofs.YtjcekpmojnnmbaaGreat.Ax
namespace Go.Proofs.YtjcekpmojnnmbaaGreat.Ax
open Go Classical
theorem I4 {r:SRelation} (h:Dq (2:Nat) r) : ∃a M:Nat,(1≤a∧a≤3∧M<2^2^a)∧r={ Arity:=(a:Int),Tuples:=C0 a M }:=by
 obtain ⟨a,ha⟩:=Int.eq_ofNat_of_zero_le (show 0≤r.Arity by have:=h.1;omega)
 obtain ⟨M,hM,e⟩:=Asc h ha
 refine ⟨a,M,⟨by have:=h.1;omega,by have:=h.2.1;omega,hM⟩,?_⟩
 cases r
 dsimp only at ha e
 rw [ha,e]
noncomputable def clR (r:SRelation):List Bool:=if h:Dq (2:Nat) r then clB (Classical.choose (I4 h)) (Classical.choose (Classical.choose_spec (I4 h))) else [true,true,true,true,true,true]
theorem Azc {a M M':Nat} (hM:M<2^2^a) (hM':M'<2^2^a) (e:C0 a M=C0 a M'):M=M':=by
 refine Nat.eq_of_testBit_eq fun i=> ?_
 by_cases hi:i<2^a
 ·have h1:=T6 (a:=a) (M:=M) hi
  have h2:=T6 (a:=a) (M:=M') hi
  rw [e] at h1
  rw [Bool.eq_iff_iff,←h1,←h2]
 ·rw [Nat.testBit_lt_two_pow (Nat.lt_of_lt_of_le hM (Nat.pow_le_pow_right (by omega) (by omega))),Nat.testBit_lt_two_pow (Nat.lt_of_lt_of_le hM' (Nat.pow_le_pow_right (by omega) (by omega)))]
theorem Aeh {a M:Nat} (h:1≤a) (h3:a≤3) (hM:M<2^2^a):clR { Arity:=(a:Int),Tuples:=C0 a M }=clB a M:=by
 have hok:=Yd h h3 hM
 unfold clR
 rw [dif_pos hok]
 obtain ⟨⟨_,_,h6⟩,e⟩:=Classical.choose_spec (Classical.choose_spec (I4 hok))
 have e1:a=Classical.choose (I4 hok):=by
  have:=congrArg SRelation.Arity e
  dsimp only at this
  omega
 have e2:=congrArg SRelation.Tuples e
 dsimp only at e2
 generalize Classical.choose (Classical.choose_spec (I4 hok))=M' at *
 generalize Classical.choose (I4 hok)=a' at *
 subst e1
 rw [Azc hM h6 e2]
theorem A0a (r:SRelation):(clR r).length=6:=by
 unfold clR
 split<;>rfl
noncomputable def L9 (cs:List SConstraint) (i:Nat):Bool:=cs.all fun c=>nth (clR c.Rel) i
noncomputable def clN (cs:List SConstraint):List Bool:=[L9 cs 0,L9 cs 1,L9 cs 2,L9 cs 3,L9 cs 4,L9 cs 5]
section
variable {cs:List SConstraint} (hl:cs.length≤1000) (hc : ∀i,i<cs.length→Dq (2:Nat) (nth cs i).Rel)
include hl hc
theorem Aj4 {net:SNetwork} (hn:net.Constraints=cs) {i:Nat} (hi:i<6):Ji net (i:Int)=some (L9 cs i):=by
 unfold Ji
 rw [Aig (body:=F1 net (i:Int)) cs.length (fun j=>nth (clR (nth cs j).Rel) i=true) (P:=L9 cs i=true) (by
  unfold L9
  rw [List.all_eq_true]
  exact ⟨fun h j hj=>h _ (Av hj),fun h c hcm=>by obtain ⟨j,hj,e⟩:=Hl.1 hcm;rw [←e];exact h j hj⟩) (fun j hj=>by
  obtain ⟨a,M,⟨h,h3,hM⟩,e⟩:=I4 (hc j hj)
  unfold F1
  rw [hn,if_pos (by omega),Af (by omega),Int.toNat_natCast,e,Axi h h3 hM hi,Aeh h h3 hM]
  simp only [Option.bind_some]
  by_cases hb:nth (clB a M) i=true
  ·rw [if_pos hb,if_pos hb,Af (by unfold InI;omega)];rfl
  ·rw [if_neg hb,if_neg hb]) (by
  unfold F1
  rw [hn,if_neg (by omega)])]
 by_cases hb:L9 cs i=true
 ·rw [if_pos hb,hb];rfl
 ·rw [if_neg hb,Bool.eq_false_iff.2 hb];rfl
omit hl in
theorem Ax0 {i:Nat} (hi:i<cs.length) {L:List Bool} (hL6:L.length=6) {x:Nat} (hx:x<2):Bh cs (i:Int) ((x:Int),L)=some (.inl (((x+1:Nat):Int),L.set x (nth L x&&nth (clR (nth cs i).Rel) x))):=by
 obtain ⟨a,M,⟨h,h3,hM⟩,e⟩:=I4 (hc i hi)
 unfold Bh
 dsimp only
 rw [if_pos (by omega),Af (by omega),Int.toNat_natCast,Int.toNat_natCast,e,Aeh h h3 hM]
 cases hb:nth L x with
 | true=>
   obtain ⟨t,e1,e2⟩:=Option.bind_eq_some_iff.1 (Ard (M:=M) h h3 hx)
   rw [if_pos rfl,e1]
   simp only [Option.bind_some]
   rw [e2]
   simp only [Option.bind_some]
   rw [Af (by omega),Af (by unfold InI;omega),Bool.true_and];rfl
 | false=>
   rw [if_neg (by simp),Af (by omega),Af (by unfold InI;omega),Bool.false_and];rfl
omit hl in
theorem An0 {i:Nat} (hi:i<cs.length) {L:List Bool} (hL6:L.length=6) {x:Nat} (hx:x<4):Bl cs (i:Int) Qt ((x:Int),L)=some (.inl (((x+1:Nat):Int),L.set (2+x) (nth L (2+x)&&nth (clR (nth cs i).Rel) (2+x)))):=by
 obtain ⟨a,M,⟨h,h3,hM⟩,e⟩:=I4 (hc i hi)
 have ho:Qt.length=4:=rfl
 have e2:((2:Int)+(x:Int)).toNat=2+x:=by omega
 unfold Bl
 dsimp only
 rw [ho,if_pos (by omega),Af (by omega),Af (by unfold InI;omega),Af (by unfold InI;omega),Af (by omega),e2,Int.toNat_natCast,Int.toNat_natCast,e,Aeh h h3 hM]
 cases hb:nth L (2+x) with
 | true=>
   rw [if_pos rfl,Ara h h3 hM hx]
   simp only [Option.bind_some]
   rw [Af (by omega),Af (by unfold InI;omega),Bool.true_and];rfl
 | false=>
   rw [if_neg (by simp),Af (by omega),Af (by unfold InI;omega),Bool.false_and];rfl
omit hl in
theorem A3c {i:Nat} (hi:i<cs.length) {L:List Bool} (hL6:L.length=6):((Ao (Bh cs (i:Int)) (0,L)).bind fun q=>Ao (Bl cs (i:Int) Qt) (0,q))=some [nth L 0&&nth (clR (nth cs i).Rel) 0,nth L 1&&nth (clR (nth cs i).Rel) 1,nth L 2&&nth (clR (nth cs i).Rel) 2,nth L 3&&nth (clR (nth cs i).Rel) 3,nth L 4&&nth (clR (nth cs i).Rel) 4,nth L 5&&nth (clR (nth cs i).Rel) 5]:=by
 match L,hL6 with
 | [b0,b1,b2,b3,b4,b5],_=>
   have s1:=Fl (Ax0 hc hi (L:=[b0,b1,b2,b3,b4,b5]) rfl (show 0<2 by omega))
   have s2:=Fl (Ax0 hc hi (L:=[b0,b1,b2,b3,b4,b5].set 0 (nth [b0,b1,b2,b3,b4,b5] 0&&nth (clR (nth cs i).Rel) 0)) rfl (show 1<2 by omega))
   have s3 : ∀q:List Bool,Ao (Bh cs (i:Int)) (((1+1:Nat):Int),q)=some q:=fun q=>E1 (by unfold Bh;dsimp only;rw [if_neg (by omega)])
   have t1:Ao (Bh cs (i:Int)) (0,[b0,b1,b2,b3,b4,b5])=some [b0&&nth (clR (nth cs i).Rel) 0,b1&&nth (clR (nth cs i).Rel) 1,b2,b3,b4,b5]:=s1.trans (s2.trans (s3 _))
   rw [t1]
   simp only [Option.bind_some]
   have u1:=Fl (An0 hc hi (L:=[b0&&nth (clR (nth cs i).Rel) 0,b1&&nth (clR (nth cs i).Rel) 1,b2,b3,b4,b5]) rfl (show 0<4 by omega))
   have u2:=Fl (An0 hc hi (L:=[b0&&nth (clR (nth cs i).Rel) 0,b1&&nth (clR (nth cs i).Rel) 1,b2&&nth (clR (nth cs i).Rel) 2,b3,b4,b5]) rfl (show 1<4 by omega))
   have u3:=Fl (An0 hc hi (L:=[b0&&nth (clR (nth cs i).Rel) 0,b1&&nth (clR (nth cs i).Rel) 1,b2&&nth (clR (nth cs i).Rel) 2,b3&&nth (clR (nth cs i).Rel) 3,b4,b5]) rfl (show 2<4 by omega))
   have u4:=Fl (An0 hc hi (L:=[b0&&nth (clR (nth cs i).Rel) 0,b1&&nth (clR (nth cs i).Rel) 1,b2&&nth (clR (nth cs i).Rel) 2,b3&&nth (clR (nth cs i).Rel) 3,b4&&nth (clR (nth cs i).Rel) 4,b5]) rfl (show 3<4 by omega))
   have u5 : ∀q:List Bool,Ao (Bl cs (i:Int) Qt) (((3+1:Nat):Int),q)=some q:=fun q=>E1 (by unfold Bl;dsimp only;rw [if_neg (by simp [Qt])])
   exact u1.trans (u2.trans (u3.trans (u4.trans (u5 _))))
end
theorem Aj8 {value:Int→Int→Int→Option Int} {T:List Int} (hT:T.length=8) (hv : ∀i:Nat,i<8→value (((i:Int).tdiv 2).tdiv 2) (((i:Int).tdiv 2).tmod 2) ((i:Int).tmod 2)=some (nth T i)):G9 2 value=some { Arity:=3,Table:=T }:=by
 have hL:=Bd
 unfold G9
 have key:=Bk (body:=Dy 2 value) (fun i=>((i:Int),({ Arity:=3,Table:=T.take i }:SOp))) 8 { Arity:=3,Table:=T } (fun i hi=>by
  have d1:InI ((i:Int).tdiv 2)∧InI (((i:Int).tdiv 2).tdiv 2):=by
   rcases (show i=0∨i=1∨i=2∨i=3∨i=4∨i=5∨i=6∨i=7 by omega) with rfl | rfl | rfl | rfl | rfl | rfl | rfl | rfl<;>(unfold InI;decide)
  unfold Dy
  dsimp only
  rw [Af (by unfold InI;omega),Af (by unfold InI;omega),if_pos (by omega),Af ⟨by omega,d1.1⟩,Af ⟨by omega,d1.2⟩,Af ⟨by omega,d1.1⟩,Af (by omega),Af (by omega),hv i hi]
  simp only [Option.bind_some]
  rw [Af (by simp;omega),Af (by unfold InI;omega),Cx (by omega)]
  rfl) (by
  unfold Dy
  dsimp only
  rw [Af (by unfold InI;omega),Af (by unfold InI;omega),if_neg (by omega),List.take_of_length_le (by omega)])
 have key':Ao (Dy 2 value) (0,{ Arity:=3,Table:=Au Int })=_:=key
 rw [key'];rfl
theorem Alz:F6=some Qt:=by
 unfold F6
 rw [Aj8 (T:=[0,1,1,0,1,0,0,1]) rfl (fun i hi=>by
  rcases (show i=0∨i=1∨i=2∨i=3∨i=4∨i=5∨i=6∨i=7 by omega) with rfl | rfl | rfl | rfl | rfl | rfl | rfl | rfl<;>decide +kernel)]
 simp only [Option.bind_some]
 rw [Aj8 (T:=[0,0,0,1,0,1,1,1]) rfl (fun i hi=>by
  rcases (show i=0∨i=1∨i=2∨i=3∨i=4∨i=5∨i=6∨i=7 by omega) with rfl | rfl | rfl | rfl | rfl | rfl | rfl | rfl<;>(unfold Gw;rw [Af (by unfold InI;decide),Af (by unfold InI;decide),Af ⟨by decide,by unfold InI;decide⟩];decide +kernel))]
 rfl
section
variable {cs:List SConstraint} (hl:cs.length≤1000) (hc : ∀i,i<cs.length→Dq (2:Nat) (nth cs i).Rel)
include hl hc
theorem Rw:C8 cs=some (clN cs):=by
 unfold C8
 have hstep : ∀i k,i<cs.length→L9 (cs.take (i+1)) k=(L9 (cs.take i) k&&nth (clR (nth cs i).Rel) k):=fun i k hi=>by
  unfold L9
  rw [Cx hi,List.all_append]
  simp
 have key:=Bk (body:=B6 cs) (fun i=>((i:Int),clN (cs.take i))) cs.length (clN cs) (fun i hi=>by
  have hr:=A3c hc hi (L:=clN (cs.take i)) rfl
  obtain ⟨q,q1,q2⟩:=Option.bind_eq_some_iff.1 hr
  unfold B6
  dsimp only
  rw [if_pos (by omega),Af (by omega),q1]
  simp only [Option.bind_some]
  rw [Alz]
  simp only [Option.bind_some]
  rw [q2]
  simp only [Option.bind_some]
  rw [Af (by unfold InI;omega)]
  have e:clN (cs.take (i+1))=[nth (clN (cs.take i)) 0&&nth (clR (nth cs i).Rel) 0,nth (clN (cs.take i)) 1&&nth (clR (nth cs i).Rel) 1,nth (clN (cs.take i)) 2&&nth (clR (nth cs i).Rel) 2,nth (clN (cs.take i)) 3&&nth (clR (nth cs i).Rel) 3,nth (clN (cs.take i)) 4&&nth (clR (nth cs i).Rel) 4,nth (clN (cs.take i)) 5&&nth (clR (nth cs i).Rel) 5]:=by
   unfold clN
   simp only [hstep _ _ hi]
   rfl
  rw [e]
  rfl) (by
  unfold B6
  dsimp only
  rw [if_neg (by omega),List.take_length])
 have key':Ao (B6 cs) (0,[true,true,true,true,true,true])=some (clN cs):=key
 rw [key'];rfl
theorem Akl {net:SNetwork} (hn:net.Constraints=cs):Ao (B0 net) (0,Au Bool)=some (clN cs):=by
 have hL:=Bd
 have key:=Bk (body:=B0 net) (fun i=>((i:Int),(List.range i).map (L9 cs))) 6 (clN cs) (fun i hi=>by
  unfold B0
  dsimp only
  rw [if_pos (by omega),Aj4 hl hc hn hi]
  simp only [Option.bind_some]
  rw [Af (by simp;omega),Af (by unfold InI;omega),List.range_succ,List.map_append]
  rfl) (by
  unfold B0
  dsimp only
  rw [if_neg (by omega)]
  rfl)
 exact key
end
end Go.Proofs.YtjcekpmojnnmbaaGreat.Ax
namespace Go.Proofs.YtjcekpmojnnmbaaGreat.Ax
open Go Classical
def gB (net:SNetwork):Prop:=O5 net∧net.Size=2
section
variable {net:SNetwork}
theorem gB.rels (h:gB net) : ∀i,i<net.Constraints.length→Dq (2:Nat) (nth net.Constraints i).Rel:=fun i hi=>by
 have:=(h.1.2.2.2 i hi).1
 rw [h.2] at this
 exact this
theorem gB.few (h:gB net):net.Constraints.length≤1000:=by have:=h.1.2.2.1;omega
theorem Vz (hs:Va net):Ee net=some (decide (gB net)):=by
 unfold Ee
 rw [Ada hs]
 simp only [Option.bind_some]
 by_cases h1:O5 net
 ·rw [decide_eq_true h1,if_pos rfl]
  congr 1
  by_cases h2:net.Size=2
  ·rw [decide_eq_true (show gB net from ⟨h1,h2⟩),h2];rfl
  ·rw [decide_eq_false (fun h:gB net=>h2 h.2)]
   simpa using h2
 ·rw [decide_eq_false h1,if_neg (by simp),decide_eq_false (fun h:gB net=>h1 h.1)]
theorem Aju (hs:Va net):G4 net=some (decide (gB net)):=by
 unfold G4
 by_cases h2:net.Size=2
 ·rw [if_pos h2,Asn hs]
  simp only [Option.bind_some]
  congr 1
  rw [decide_eq_decide]
  exact ⟨fun h=>⟨h,h2⟩,fun h=>h.1⟩
 ·rw [if_neg h2,decide_eq_false (fun h:gB net=>h2 h.2)]
theorem O8 (hs:Va net):Cm net=some (if gB net then (clN net.Constraints,true) else (Au Bool,false))∧D7 net=some (if gB net then (clN net.Constraints,true) else (Au Bool,false)):=by
 unfold Cm D7
 rw [Vz hs,Aju hs]
 simp only [Option.bind_some]
 by_cases h:gB net
 ·rw [decide_eq_true h,if_pos rfl,if_pos rfl,if_pos h,Rw h.few h.rels,Akl h.few h.rels rfl]
  exact ⟨rfl,rfl⟩
 ·rw [decide_eq_false h,if_neg h]
  exact ⟨rfl,rfl⟩
def Azk (cs:List SConstraint) (k:Nat):Prop:=k≤6∧(∀j,j<k→L9 cs j=false)∧(k<6→L9 cs k=true)
theorem A2m (cs:List SConstraint) : ∃k,Azk cs k:=by
 by_cases h : ∃k,k<6∧L9 cs k=true
 ·obtain ⟨k,hk,h1,h2⟩:=Axu h
  exact ⟨k,by omega,fun j hj=>Bool.eq_false_iff.2 (h2 j hj),fun _=>h1⟩
 ·exact ⟨6,Nat.le_refl _,fun j hj=>Bool.eq_false_iff.2 fun hh=>h ⟨j,hj,hh⟩,fun hh=>by omega⟩
theorem Ast (cs:List SConstraint) {i:Nat} (hi:i<6):nth (clN cs) i=L9 cs i:=by
 rcases (show i=0∨i=1∨i=2∨i=3∨i=4∨i=5 by omega) with rfl | rfl | rfl | rfl | rfl | rfl<;>rfl
theorem Ag0 (hs:Va net) {k:Nat} (hk:Azk net.Constraints k):Ga net=some (if gB net then ((k:Int),true) else (0,false))∧Gd net=some (if gB net then ((k:Int),true) else (0,false)):=by
 unfold Ga Gd
 rw [Vz hs,Aju hs]
 simp only [Option.bind_some]
 by_cases h:gB net
 ·rw [decide_eq_true h,if_pos rfl,if_pos rfl,if_pos h,Rw h.few h.rels]
  simp only [Option.bind_some]
  unfold Ks
  have hl6:(clN net.Constraints).length=6:=rfl
  obtain ⟨k6,hno,hyes⟩:=hk
  have e1:Ao (Cr (clN net.Constraints)) 0=some (if k<6 then .inl (k:Int) else .inr ()):=
   Bk (body:=Cr (clN net.Constraints)) (fun i=>(i:Int)) k _ (fun i hi=>by
    unfold Cr
    rw [if_pos (by omega),Af (by omega),Int.toNat_natCast,Ast _ (by omega),hno i hi,if_neg (by simp),Af (by unfold InI;omega)];rfl) (by
    unfold Cr
    by_cases hlt:k<6
    ·rw [if_pos (by omega),Af (by omega),Int.toNat_natCast,Ast _ hlt,hyes hlt,if_pos rfl,if_pos hlt]
    ·rw [if_neg (by omega),if_neg hlt])
  have e2:Ao (De net) 0=some (if k<6 then .inl (k:Int) else .inr ()):=
   Bk (body:=De net) (fun i=>(i:Int)) k _ (fun i hi=>by
    unfold De
    rw [if_pos (by omega),Aj4 h.few h.rels rfl (by omega),hno i hi]
    simp only [Option.bind_some]
    rw [if_neg (by simp),Af (by unfold InI;omega)];rfl) (by
    unfold De
    by_cases hlt:k<6
    ·rw [if_pos (by omega),Aj4 h.few h.rels rfl hlt,hyes hlt]
     simp only [Option.bind_some,if_true]
     rw [if_pos hlt]
    ·rw [if_neg (by omega),if_neg hlt])
  rw [e1,e2]
  by_cases hlt:k<6
  ·rw [if_pos hlt];exact ⟨rfl,rfl⟩
  ·have:k=6:=by omega
   subst this
   rw [if_neg hlt];exact ⟨rfl,rfl⟩
 ·rw [decide_eq_false h,if_neg h]
  exact ⟨rfl,rfl⟩
end
end Go.Proofs.YtjcekpmojnnmbaaGreat.Ax
namespace Go.Proofs.YtjcekpmojnnmbaaGreat.Ax
open Go Classical
def swR (r:SRelation):SRelation:={ Arity:=r.Arity,Tuples:=(r.Tuples.map swT).reverse }
def swC (c:SConstraint):SConstraint:={ Scope:=c.Scope,Rel:=swR c.Rel }
def swN (net:SNetwork):SNetwork:={ Vars:=net.Vars,Size:=net.Size,Constraints:=net.Constraints.map swC }
section
variable {r:SRelation} (hr:Dq (2:Nat) r)
include hr
theorem Y5:Dq (2:Nat) (swR r)∧clR (swR r)=swL (clR r)∧swR (swR r)=r∧Do r [1,0]=some (swR r)∧r.Tuples.length≤8 ∧ ∀t∈r.Tuples,t.length≤3:=by
 obtain ⟨a,M,⟨h,h3,hM⟩,rfl⟩:=I4 hr
 have e : ∀M,M<2^2^a→swR { Arity:=(a:Int),Tuples:=C0 a M }={ Arity:=(a:Int),Tuples:=C0 a (swM a M) }:=fun M hM=>by
  unfold swR
  dsimp only
  rw [Auk h h3 hM]
 have hM':=Ax9 a M
 rw [e M hM]
 refine ⟨Yd h h3 hM',?_,?_,Axk h h3 hM,Q2 h3 M,fun t ht=>by rw [(Ut ht).1];exact h3⟩
 ·rw [Aeh h h3 hM',Aeh h h3 hM];exact A10 h h3 hM
 ·rw [e _ hM',A08 h h3 hM]
end
section
variable {net:SNetwork} (h:gB net)
include h
omit h in
theorem Nm:(swN net).Constraints.length=net.Constraints.length:=by simp [swN]
omit h in
theorem Ais {i:Nat} (hi:i<net.Constraints.length):nth (swN net).Constraints i=swC (nth net.Constraints i):=by
 unfold swN
 exact Qz _ hi
theorem Ap3:gB (swN net):=by
 refine ⟨⟨h.1.1,h.1.2.1,by rw [Nm];exact h.1.2.2.1,fun i hi=> ?_⟩,h.2⟩
 rw [Nm] at hi
 obtain ⟨c1,c2,c3⟩:=h.1.2.2.2 i hi
 rw [Ais hi]
 have e:(swN net).Size=((2:Nat):Int):=h.2
 rw [e]
 exact ⟨(Y5 (h.rels i hi)).1,c2,c3⟩
theorem A0k:swN (swN net)=net:=by
 have e:(swN (swN net)).Constraints=net.Constraints:=by
  refine Pt (by rw [Nm,Nm]) fun i hi=> ?_
  rw [Nm,Nm] at hi
  rw [Ais (by rw [Nm];exact hi),Ais hi]
  unfold swC
  dsimp only
  rw [(Y5 (h.rels i hi)).2.2.1]
 cases net
 unfold swN at e ⊢
 dsimp only at e ⊢
 rw [e]
theorem Amj (hs:Va net):Va (swN net):=by
 refine ⟨by rw [Nm];exact hs.1,fun c hcm=> ?_⟩
 obtain ⟨c0,hc0,rfl⟩:=List.mem_map.1 hcm
 obtain ⟨i,hi,e⟩:=Hl.1 hc0
 subst e
 obtain ⟨_,_,_,_,h5,h6⟩:=Y5 (h.rels i hi)
 refine ⟨(hs.2 _ hc0).1,?_,fun t ht=> ?_⟩
 ·unfold swC swR
  dsimp only
  rw [List.length_reverse,List.length_map];omega
 ·unfold swC swR at ht
  dsimp only at ht
  rw [List.mem_reverse] at ht
  obtain ⟨u,hu,rfl⟩:=List.mem_map.1 ht
  unfold swT Wd
  rw [List.length_map]
  have:=h6 u hu
  omega
theorem A3b:clN (swN net).Constraints=swL (clN net.Constraints):=by
 have key : ∀i j,(∀k,k<net.Constraints.length→nth (swL (clR (nth net.Constraints k).Rel)) i=nth (clR (nth net.Constraints k).Rel) j)→L9 (swN net).Constraints i=L9 net.Constraints j:=fun i j hij=>by
  unfold L9
  rw [Bool.eq_iff_iff,List.all_eq_true,List.all_eq_true]
  constructor
  ·intro hh c hc
   obtain ⟨k,hk,rfl⟩:=Hl.1 hc
   have:=hh _ (Av (show k<(swN net).Constraints.length by rw [Nm];exact hk))
   rw [Ais hk] at this
   unfold swC at this
   dsimp only at this
   rw [(Y5 (h.rels k hk)).2.1,hij k hk] at this
   exact this
  ·intro hh c hc
   obtain ⟨k,hk,rfl⟩:=Hl.1 hc
   rw [Nm] at hk
   rw [Ais hk]
   unfold swC
   dsimp only
   rw [(Y5 (h.rels k hk)).2.1,hij k hk]
   exact hh _ (Av hk)
 have six : ∀k,k<net.Constraints.length → ∃b0 b1 b2 b3 b4 b5,clR (nth net.Constraints k).Rel=[b0,b1,b2,b3,b4,b5]:=fun k _=>by
  have:=A0a (nth net.Constraints k).Rel
  match clR (nth net.Constraints k).Rel,this with
  | [b0,b1,b2,b3,b4,b5],_=>exact ⟨b0,b1,b2,b3,b4,b5,rfl⟩
 unfold clN
 rw [key 0 1 fun k hk=>(by obtain ⟨b0,b1,b2,b3,b4,b5,e⟩:=six k hk;rw [e];rfl),key 1 0 fun k hk=>(by obtain ⟨b0,b1,b2,b3,b4,b5,e⟩:=six k hk;rw [e];rfl),key 2 3 fun k hk=>(by obtain ⟨b0,b1,b2,b3,b4,b5,e⟩:=six k hk;rw [e];rfl),key 3 2 fun k hk=>(by obtain ⟨b0,b1,b2,b3,b4,b5,e⟩:=six k hk;rw [e];rfl),key 4 4 fun k hk=>(by obtain ⟨b0,b1,b2,b3,b4,b5,e⟩:=six k hk;rw [e];rfl),key 5 5 fun k hk=>(by obtain ⟨b0,b1,b2,b3,b4,b5,e⟩:=six k hk;rw [e];rfl)]
 rfl
theorem Yf (hs:Va net):Eg net=some (swN net,true):=by
 have hL:=Bd
 have hf:=h.few
 unfold Eg Fq
 rw [Vz hs,decide_eq_true h]
 simp only [Option.bind_some,if_true]
 rw [Ada hs,decide_eq_true h.1]
 simp only [Option.bind_some,if_true]
 have ho:As7 (2:Nat) ({ Arity:=1,Table:=[1,0] }:SOp):=by
  refine ⟨by decide,by decide,by decide,fun z hz=> ?_⟩
  simp at hz
  rcases hz with rfl | rfl<;>omega
 rw [if_neg (by simp),h.2,show ((2:Int))=((2:Nat):Int) from rfl,Axo (by omega) (by simp;omega),decide_eq_true ho]
 simp only [Option.bind_some,if_true]
 have key:=Bk (body:=B4 net { Arity:=1,Table:=[1,0] }) (fun i=>((i:Int),(net.Constraints.take i).map swC)) net.Constraints.length (net.Constraints.map swC) (fun i hi=>by
  have hsc:=(hs.2 _ (Av hi)).1
  unfold B4
  dsimp only
  rw [if_pos (by omega),Af (by omega),Int.toNat_natCast]
  unfold Jk
  rw [Af (by simp [Au];omega)]
  simp only [Option.bind_some]
  rw [(Y5 (h.rels i hi)).2.2.2.1]
  simp only [Option.bind_some]
  rw [Af (by simp;omega),Af (by unfold InI;omega),Cx hi,List.map_append]
  rfl) (by
  unfold B4
  dsimp only
  rw [if_neg (by omega),List.take_length])
 have key':Ao (B4 net { Arity:=1,Table:=[1,0] }) (0,Au SConstraint)=some (net.Constraints.map swC):=by simpa [Au] using key
 rw [key']
 simp only [Option.bind_some]
 unfold E7
 rw [if_neg (by have:=h.1.2.2.1;simp;omega)]
 rfl
end
end Go.Proofs.YtjcekpmojnnmbaaGreat.Ax
namespace Go.Proofs.YtjcekpmojnnmbaaGreat.Ax
open Go Classical
theorem Ajd {c:Sl1Cur} {k:Nat} (h:Cur k c) (hk:k≤300000000) {cl:Int} (h0:0≤cl) (h7:cl≤8) : ∃net d,Du c cl=some (net,d)∧Va net:=by
 have hLm:=Bd
 unfold Du
 obtain ⟨V,d1,e1,hd1,hV⟩:=It h (by omega) [2,3,3,4,5,1,9,0] (by simp)
 rw [e1]
 simp only [Option.bind_some]
 obtain ⟨m,d2,e2,hd2,hm⟩:=It hd1 (by omega) [1,2,3,4,5,6,0] (by simp)
 rw [e2]
 simp only [Option.bind_some]
 simp only [List.mem_cons,List.not_mem_nil,or_false] at hV hm
 have row : ∀(j:Nat) (x6:Int) (x5:SNetwork) (R:SRelation) (u:Sl1Cur),Cur j u→j≤400000000→R.Arity≤3 → ∃q d,Ao (Ce cl x6 x5) (0,{ Scope:=Au Int,Rel:=R },u)=some (q,d)∧Cur (j+100) d∧q.Rel=R∧q.Scope.length≤3:=fun j x6 x5 R u hu hj hR=>by
  obtain ⟨t,e,t1,t2,t3⟩:=D5 (body:=Ce cl x6 x5) (fun s => ∃i:Nat,s.1=(i:Int)∧i≤3∧s.2.1.Rel=R∧s.2.1.Scope.length=i∧Cur (j+20*i) s.2.2) (fun s=>3-s.1.toNat) (fun t=>Cur (j+100) t.2∧t.1.Rel=R∧t.1.Scope.length≤3) (by
   rintro ⟨x,q,cu⟩ ⟨i,rfl,hi,hq,hql,hcu⟩
   dsimp only at hq hql hcu
   unfold Ce
   dsimp only
   rw [hq]
   by_cases hx:(i:Int)<R.Arity
   ·obtain ⟨r,d,er,hd,_⟩:=Li hcu (by omega) x5.Vars
    rw [if_pos hx,er]
    simp only [Option.bind_some]
    rw [Af (by simp;omega),Af (by unfold InI;omega)]
    exact .inl ⟨_,rfl,⟨i+1,rfl,by omega,rfl,by simp;omega,hd.mono (by omega)⟩,by dsimp only;omega⟩
   ·rw [if_neg hx]
    exact .inr ⟨_,rfl,hcu.mono (by omega),hq,by dsimp only;omega⟩) (s:=((0:Int),{ Scope:=Au Int,Rel:=R },u)) ⟨0,rfl,by omega,rfl,rfl,hu.mono (by omega)⟩
  exact ⟨t.1,t.2,e,t1,t2,t3⟩
 obtain ⟨⟨net,d3⟩,e3,n1,n2,n3⟩:=D5 (body:=Cy cl) (fun s => ∃i:Nat,s.2.1.Constraints.length=i∧s.1+(i:Int)=m∧i≤6∧s.2.1.Vars=V∧Cur (k+100+400*i) s.2.2 ∧ ∀c∈s.2.1.Constraints,c.Scope.length≤3∧Sq 1200 c.Rel) (fun s=>s.1.toNat) (fun t=>t.1.Constraints.length≤6∧(∀c∈t.1.Constraints,c.Scope.length≤3∧Sq 1200 c.Rel)∧t.1.Vars=V∧Cur (k+5000) t.2) (by
  rintro ⟨x,nt,cu⟩ ⟨i,hi,hx,hi6,hv,hcu,hall⟩
  dsimp only at hi hx hv hcu hall
  unfold Cy
  dsimp only
  have stop : ∃t,(some (.inr (nt,cu)):Option ((Int×SNetwork×Sl1Cur) ⊕ (SNetwork×Sl1Cur)))=some (.inr t)∧t.1.Constraints.length≤6∧(∀c∈t.1.Constraints,c.Scope.length≤3∧Sq 1200 c.Rel)∧t.1.Vars=V∧Cur (k+5000) t.2:=⟨_,rfl,by dsimp only;omega,hall,hv,hcu.mono (by omega)⟩
  by_cases h1:x>0
  ·rw [if_pos h1]
   by_cases h2:nt.Vars>0
   ·rw [if_pos h2]
    simp only [Option.bind_some]
    obtain ⟨R,d,er,hd,hR,hA⟩:=Aro hcu (by omega) h0 h7
    rw [er]
    simp only [Option.bind_some]
    obtain ⟨q,d',eq,hd',q1,q2⟩:=row _ x nt R d hd (by omega) hA
    rw [eq]
    simp only [Option.bind_some]
    rw [Af (by simp;omega),Af (by unfold InI;omega)]
    refine .inl ⟨_,rfl,⟨i+1,by simp;omega,by dsimp only;omega,by omega,hv,hd'.mono (by omega),fun c hc=> ?_⟩,by dsimp only;omega⟩
    dsimp only at hc
    rcases List.mem_append.1 hc with hc | hc
    ·exact hall c hc
    ·rw [List.mem_singleton.1 hc]
     exact ⟨q2,by rw [q1];exact hR⟩
   ·rw [if_neg h2]
    exact .inr stop
  ·rw [if_neg h1]
   exact .inr stop) (s:=(m,{ Vars:=V,Size:=2,Constraints:=Au SConstraint },d2)) ⟨0,rfl,by dsimp only;omega,by omega,rfl,hd2.mono (by omega),fun c hc=>by cases hc⟩
 dsimp only at n1 n2 n3
 obtain ⟨n3,n4⟩:=n3
 rw [e3]
 simp only [Option.bind_some]
 have hsm : ∀c∈net.Constraints,Ahh c:=fun c hc=>by
  obtain ⟨c1,c2,c3⟩:=n2 c hc
  exact ⟨by omega,by omega,fun t ht=>by have:=c3 t ht;omega⟩
 obtain ⟨p,d4,e4,hd4,_⟩:=Li n4 (by omega) 40
 rw [e4]
 simp only [Option.bind_some]
 by_cases p0:p=0
 ·rw [if_pos p0]
  obtain ⟨z,d5,e5,_,_⟩:=It hd4 (by omega) [3,1,0] (by simp)
  rw [e5]
  exact ⟨_,_,rfl,by dsimp only;omega,hsm⟩
 rw [if_neg p0]
 by_cases p1:p=1
 ·rw [if_pos p1,Af (by unfold InI;omega)]
  obtain ⟨z,d5,e5,_,_⟩:=It hd4 (by omega) [-1,10,net.Vars+1] (by simp)
  rw [e5]
  exact ⟨_,_,rfl,by dsimp only;omega,hsm⟩
 rw [if_neg p1]
 by_cases p2:p=2
 ·rw [if_pos p2]
  by_cases hc:(net.Constraints.length:Int)>0
  ·have hm0:nth net.Constraints 0∈net.Constraints:=Av (by omega)
   have h3:=(n2 _ hm0).1
   rw [if_pos hc]
   repeat rw [Af (by omega)]
   rw [show Int.toNat 0=0 from rfl,Af (by simp;omega),Af (by omega)]
   refine ⟨_,_,rfl,by simp;omega,fun c hcm=> ?_⟩
   rcases List.mem_or_eq_of_mem_set hcm with hcm | rfl
   ·exact hsm c hcm
   ·obtain ⟨a1,a2,a3⟩:=hsm _ hm0
    exact ⟨by simp;omega,a2,a3⟩
  ·rw [if_neg hc]
   exact ⟨_,_,rfl,by omega,hsm⟩
 ·rw [if_neg p2]
  exact ⟨_,_,rfl,by omega,hsm⟩
end Go.Proofs.YtjcekpmojnnmbaaGreat.Ax
