/-
 Plain facts, joined.
-/
import Derived.Test.YtbnoclklhcbidaaDoorPA
namespace Go.Proofs.YtbnoclklhcbidaaDoor.Ax
open Go Classical
def Ax9 (m i:Nat):Bool:=decide (m/2^i%2=1)
def Aya (f:Nat→Nat→Bool) (ls:List Int):Prop := ∀x∈ls,∀y∈ls,¬(x.toNat≠y.toNat∧f x.toNat y.toNat=true)
end Go.Proofs.YtbnoclklhcbidaaDoor.Ax
namespace Go.Proofs.YtbnoclklhcbidaaDoor.Ax
open Go Classical
def pc (n m:Nat):Nat:=(Od n (Ax9 m)).length
theorem Aq7 {q q':Nat→Bool} {x:Nat} (hq:q x=false) (h : ∀i,q' i=(q i || decide (x=i))) : ∀n,(Od n q').length=(Od n q).length+if x<n then 1 else 0:=by
 intro n
 induction n with
 | zero=>simp [Od]
 | succ n ih=>
   rw [Adi,Adi,h n]
   by_cases hxn:x=n
   ·subst hxn
    rw [hq]
    simp only [decide_true,Bool.or_true,if_true,Bool.false_eq_true,if_false]
    rw [List.length_append,ih,if_neg (by omega),if_pos (by omega)];rfl
   ·rw [decide_eq_false hxn,Bool.or_false]
    by_cases hqn:q n=true
    ·rw [if_pos hqn,if_pos hqn,List.length_append,List.length_append,ih]
     by_cases hx:x<n
     ·rw [if_pos hx,if_pos (by omega)];simp
     ·rw [if_neg hx,if_neg (by omega)];rfl
    ·rw [if_neg hqn,if_neg hqn,ih]
     by_cases hx:x<n
     ·rw [if_pos hx,if_pos (by omega)]
     ·rw [if_neg hx,if_neg (by omega)]
def wt (n m:Nat):Nat:=10^(10-pc n m)
def phi (n:Nat) (ws:List Int):Nat→Nat→Int
 | _,0=>0
 | M,k+1=>nth ws M*wt n M+phi n ws (M+1) k
section
variable {n:Nat} {f:Nat→Nat→Bool}
structure okW (n m:Nat) (ws:List Int):Prop where
 len:ws.length=2^n
 pos : ∀i,i<ws.length→0≤nth ws i
 sum:phi n ws m (2^n-m)≤10000000000
end
end Go.Proofs.YtbnoclklhcbidaaDoor.Ax
namespace Go.Proofs.YtbnoclklhcbidaaDoor.Ax
open Go Classical
end Go.Proofs.YtbnoclklhcbidaaDoor.Ax
namespace Go.Proofs.YtbnoclklhcbidaaDoor.Ax
open Go Classical
end Go.Proofs.YtbnoclklhcbidaaDoor.Ax
namespace Go.Proofs.YtbnoclklhcbidaaDoor.Ax
open Go Classical
noncomputable def Axv (n:Nat) (g h:Nat→Nat→Nat) (S:Nat→Bool):Nat→Bool:=fun z=>decide (S z=true ∨ ∃x y,x<n∧y<n∧S x=true∧S y=true∧(z=g x y∨z=h x y))
noncomputable def Aiw (n:Nat) (g h:Nat→Nat→Nat) (S:Nat→Bool):Nat→Nat→Bool
 | 0=>S
 | k+1=>Axv n g h (Aiw n g h S k)
section
variable {n:Nat} {g h:Nat→Nat→Nat} {S:Nat→Bool}
def Ayd (n:Nat) (g h:Nat→Nat→Nat) (S:Nat→Bool) (k:Nat):Prop := ∀z,z<n→Aiw n g h S (k+1) z=Aiw n g h S k z
noncomputable def closed (n:Nat) (g h:Nat→Nat→Nat) (S:Nat→Bool):Nat→Bool:=Aiw n g h S n
end
end Go.Proofs.YtbnoclklhcbidaaDoor.Ax
namespace Go.Proofs.YtbnoclklhcbidaaDoor.Ax
open Go Classical
theorem Aso {xs ys:List Int} (h:xs.length≤LIM):Is xs ys=some (decide (xs=ys)):=by
 unfold Is
 rw [Co] at h
 split
 ·rename_i hl
  rw [decide_eq_false]
  rintro rfl;exact hl rfl
 rename_i hl
 have hl:xs.length=ys.length:=by omega
 have:=H6 (body:=D3 xs ys) (fun i=>(i:Int)) xs.length (fun i=>¬nth xs i=nth ys i) () () (fun i hi hb=>by
  unfold D3
  rw [if_pos (by omega),Ae (by omega),Ae (by omega)]
  simp only [Int.toNat_natCast]
  rw [if_neg (by simpa using hb),Ae (by unfold InI;omega)];rfl) (fun i hi hb=>by
  unfold D3
  rw [if_pos (by omega),Ae (by omega),Ae (by omega)]
  simp only [Int.toNat_natCast]
  rw [if_pos hb]) (by unfold D3;rw [if_neg (by omega)]) 0 (by omega)
 show ((A7 _ ((0:Nat):Int)).bind _)=_
 rw [this]
 by_cases hx : ∃i,0≤i∧i<xs.length∧¬nth xs i=nth ys i
 ·rw [if_pos hx,decide_eq_false]
  ·rfl
  ·rintro rfl;obtain ⟨i,_,_,hc⟩:=hx;exact hc rfl
 ·rw [if_neg hx,decide_eq_true (Api hl (Lz.1 hx))]
  rfl
end Go.Proofs.YtbnoclklhcbidaaDoor.Ax
namespace Go.Proofs.YtbnoclklhcbidaaDoor.Ax
open Go Classical
def N5 (a:SAlgebra):Prop:=a.Ops.length≤1048576 ∧ ∀f∈a.Ops,f.Table.length≤1048576
end Go.Proofs.YtbnoclklhcbidaaDoor.Ax
namespace Go.Proofs.YtbnoclklhcbidaaDoor.Ax
open Go Classical
end Go.Proofs.YtbnoclklhcbidaaDoor.Ax
namespace Go.Proofs.YtbnoclklhcbidaaDoor.Ax
open Go Classical
end Go.Proofs.YtbnoclklhcbidaaDoor.Ax
namespace Go.Proofs.YtbnoclklhcbidaaDoor.Ax
open Go Classical
def Ar2 (n:Nat) (f:SOp):Prop:=0≤f.Arity∧f.Arity≤3∧f.Table.length=n^f.Arity.toNat∧Mb f.Table n
def B0 (a:SAlgebra):Prop:=1≤a.Size∧a.Size≤8∧a.Ops.length≤4 ∧ ∀f∈a.Ops,Ar2 a.Size.toNat f
theorem Adz {n k:Nat} (hn:n≤8) (hk:k≤3):n^k≤512:=
 Nat.le_trans (Nat.pow_le_pow_left hn k) (Nat.le_trans (Nat.pow_le_pow_right (by omega) hk) (by decide))
theorem Avj {n k:Nat} (hn:n≤8) (hk:k≤3):Hy n k=some ((n^k:Nat):Int):=by
 unfold Hy
 have key:=Np (body:=Ef n) (fun j=>(((n^j:Nat):Int),((k:Int)-(j:Int)))) k ((n^k:Nat):Int) (fun j hj=>by
  unfold Ef
  dsimp only
  have hp:=Adz hn (show j+1≤3 by omega)
  rw [Nat.pow_succ] at hp
  rw [if_pos (by omega),←Int.natCast_mul,Nat.pow_succ]
  generalize n^j*n=N at hp ⊢
  rw [Ae (by unfold InI;omega),Ae (by unfold InI;omega),show ((k:Int)-(j:Int)-1)=(k:Int)-((j+1:Nat):Int) by omega]) (by
  unfold Ef
  dsimp only
  rw [if_neg (by omega)])
 have key':A7 (Ef n) (1,(k:Int))=some ((n^k:Nat):Int):=by simpa using key
 rw [key'];rfl
theorem Aoz {n k:Nat} (hn:n≤8) (hk:k≤3):Gj n k=some ((n^k:Nat):Int):=by
 unfold Gj
 have key:=Np (body:=Eg n) (fun j=>(((n^j:Nat):Int),((k:Int)-(j:Int)))) k ((n^k:Nat):Int) (fun j hj=>by
  unfold Eg
  dsimp only
  have hp:=Adz hn (show j+1≤3 by omega)
  rw [Nat.pow_succ] at hp
  rw [if_pos (by omega),←Int.natCast_mul,Nat.pow_succ]
  generalize n^j*n=N at hp ⊢
  rw [Ae (by unfold InI;omega),Ae (by unfold InI;omega),show ((k:Int)-(j:Int)-1)=(k:Int)-((j+1:Nat):Int) by omega]) (by
  unfold Eg
  dsimp only
  rw [if_neg (by omega)])
 have key':A7 (Eg n) (1,(k:Int))=some ((n^k:Nat):Int):=by simpa using key
 rw [key'];rfl
theorem Ara {n:Nat} (hn:n≤8) {f:SOp} (hl:f.Table.length≤LIM):L2 f n=some (decide (Ar2 n f)):=by
 unfold L2
 by_cases h0:0≤f.Arity
 ·rw [if_pos (show f.Arity≥0 from h0)]
  by_cases h3:f.Arity≤3
  ·have e:Hy (n:Int) f.Arity=some ((n^f.Arity.toNat:Nat):Int):=by
    have:=Avj hn (k:=f.Arity.toNat) (by omega)
    rwa [show ((f.Arity.toNat:Nat):Int)=f.Arity by omega] at this
   rw [if_pos h3,e]
   simp only [Option.bind_some]
   by_cases hL:f.Table.length=n^f.Arity.toNat
   ·rw [if_pos (by rw [hL]),Arf _ _ hl]
    simp only [Option.bind_some]
    congr 1
    rw [decide_eq_decide]
    exact ⟨fun h=>⟨h0,h3,hL,h⟩,fun h=>h.2.2.2⟩
   ·rw [if_neg (fun hc=>hL (Int.ofNat_inj.1 hc)),decide_eq_false (fun h=>hL h.2.2.1)]
  ·rw [if_neg h3,decide_eq_false (fun h=>h3 h.2.1)]
 ·rw [if_neg (by omega),decide_eq_false (fun h=>h0 h.1)]
theorem Aro {n:Nat} (hn1:1≤n) (hn:n≤8) {f:SOp} (hl:f.Table.length≤LIM):Ly n f=some (decide (Ar2 n f)):=by
 unfold Ly
 rw [Zh]
 simp only [Option.bind_some]
 by_cases h0:0≤f.Arity∧f.Arity≤3
 ·have e:Gj (n:Int) f.Arity=some ((n^f.Arity.toNat:Nat):Int):=by
   have:=Aoz hn (k:=f.Arity.toNat) (by omega)
   rwa [show ((f.Arity.toNat:Nat):Int)=f.Arity by omega] at this
  rw [decide_eq_true h0,if_pos rfl,e]
  simp only [Option.bind_some]
  by_cases hL:f.Table.length=n^f.Arity.toNat
  ·rw [if_neg (by rw [hL];simp)]
   simp only [Option.bind_some]
   have hl':=hl
   rw [Co] at hl'
   have this:=H6 (body:=Fe n f) (fun i=>(i:Int)) f.Table.length (fun i=>¬(0≤nth f.Table i∧nth f.Table i≤(n:Int)-1)) () () (fun i hi hb=>by
    unfold Fe
    rw [if_pos (by omega),Ae (by omega),Ae (by unfold InI;omega),Zh]
    simp only [Int.toNat_natCast,Option.bind_some]
    rw [decide_eq_true (Classical.not_not.1 hb),if_pos rfl,Ae (by unfold InI;omega)];rfl) (fun i hi hb=>by
    unfold Fe
    rw [if_pos (by omega),Ae (by omega),Ae (by unfold InI;omega),Zh]
    simp only [Int.toNat_natCast,Option.bind_some]
    rw [decide_eq_false hb,if_neg (by simp)]) (by
    unfold Fe
    rw [if_neg (by omega)]) 0 (by omega)
   refine (Kx this false true).trans (congrArg some (Q1 ?_))
   rw [Lz]
   constructor
   ·intro h
    refine ⟨h0.1,h0.2,hL,fun x hx=> ?_⟩
    obtain ⟨i,hi,rfl⟩:=Ow.1 hx
    have:=h i hi;omega
   ·intro h i hi
    have:=h.2.2.2 _ (Cf hi);omega
  ·rw [if_pos (fun hc=>hL (Int.ofNat_inj.1 hc)),decide_eq_false (fun h=>hL h.2.2.1)];rfl
 ·rw [decide_eq_false h0,if_neg (by simp),decide_eq_false (fun h=>h0 ⟨h.1,h.2.1⟩)];rfl
theorem Aay {a:SAlgebra} (h:N5 a):E3 a=some (decide (B0 a)):=by
 unfold E3
 by_cases h1:a.Size<1
 ·rw [if_pos h1,decide_eq_false (fun hg=>by have:=hg.1;omega)];rfl
 rw [if_neg h1]
 by_cases h8:a.Size>8
 ·rw [if_pos h8,decide_eq_false (fun hg=>by have:=hg.2.1;omega)];rfl
 rw [if_neg h8]
 by_cases h4:(a.Ops.length:Int)>4
 ·rw [if_pos h4,decide_eq_false (fun hg=>by have:=hg.2.2.1;omega)];rfl
 rw [if_neg h4]
 simp only [Option.bind_some]
 obtain ⟨n,hn⟩:=Int.eq_ofNat_of_zero_le (show 0≤a.Size by omega)
 have this:=H6 (body:=Cx a) (fun i=>(i:Int)) a.Ops.length (fun i=>¬Ar2 n (nth a.Ops i)) () () (fun i hi hb=>by
  have hl:=h.2 _ (Cf hi)
  unfold Cx
  rw [if_pos (by omega),Ae (by omega),Int.toNat_natCast,hn,Ara (by omega) (by rw [Co];omega)]
  simp only [Option.bind_some]
  rw [decide_eq_true (Classical.not_not.1 hb),if_pos rfl,Ae (by unfold InI;omega)];rfl) (fun i hi hb=>by
  have hl:=h.2 _ (Cf hi)
  unfold Cx
  rw [if_pos (by omega),Ae (by omega),Int.toNat_natCast,hn,Ara (by omega) (by rw [Co];omega)]
  simp only [Option.bind_some]
  rw [decide_eq_false hb,if_neg (by simp)]) (by
  unfold Cx
  rw [if_neg (by omega)]) 0 (by omega)
 refine (Kx this false true).trans (congrArg some (Q1 ?_))
 rw [Lz]
 have hnn:a.Size.toNat=n:=by omega
 constructor
 ·intro hh
  refine ⟨by omega,by omega,by omega,fun f hf=> ?_⟩
  obtain ⟨i,hi,rfl⟩:=Ow.1 hf
  rw [hnn];exact hh i hi
 ·intro hg i hi
  have:=hg.2.2.2 _ (Cf hi)
  rwa [hnn] at this
theorem Ak6 {a:SAlgebra} (h:N5 a):G2 a=some (decide (B0 a)):=by
 unfold G2
 rw [Zh]
 simp only [Option.bind_some]
 by_cases h1:1≤a.Size∧a.Size≤8
 ·rw [decide_eq_true h1,if_pos rfl]
  by_cases h4:(a.Ops.length:Int)>4
  ·rw [if_pos h4,decide_eq_false (fun hg=>by have:=hg.2.2.1;omega)];rfl
  rw [if_neg h4]
  simp only [Option.bind_some]
  obtain ⟨n,hn⟩:=Int.eq_ofNat_of_zero_le (show 0≤a.Size by omega)
  have this:=H6 (body:=D1 a) (fun i=>(i:Int)) a.Ops.length (fun i=>¬Ar2 n (nth a.Ops i)) () () (fun i hi hb=>by
   have hl:=h.2 _ (Cf hi)
   unfold D1
   rw [if_pos (by omega),Ae (by omega),Int.toNat_natCast,hn,Aro (by omega) (by omega) (by rw [Co];omega)]
   simp only [Option.bind_some]
   rw [decide_eq_true (Classical.not_not.1 hb),if_pos rfl,Ae (by unfold InI;omega)];rfl) (fun i hi hb=>by
   have hl:=h.2 _ (Cf hi)
   unfold D1
   rw [if_pos (by omega),Ae (by omega),Int.toNat_natCast,hn,Aro (by omega) (by omega) (by rw [Co];omega)]
   simp only [Option.bind_some]
   rw [decide_eq_false hb,if_neg (by simp)]) (by
   unfold D1
   rw [if_neg (by omega)]) 0 (by omega)
  refine (Kx this false true).trans (congrArg some (Q1 ?_))
  rw [Lz]
  have hnn:a.Size.toNat=n:=by omega
  constructor
  ·intro hh
   refine ⟨by omega,by omega,by omega,fun f hf=> ?_⟩
   obtain ⟨i,hi,rfl⟩:=Ow.1 hf
   rw [hnn];exact hh i hi
  ·intro hg i hi
   have:=hg.2.2.2 _ (Cf hi)
   rwa [hnn] at this
 ·rw [decide_eq_false h1,if_neg (by simp),decide_eq_false (fun hg=>h1 ⟨hg.1,hg.2.1⟩)];rfl
def Ak9 (a:SAlgebra):List Int:=a.Ops.map (·.Arity)
end Go.Proofs.YtbnoclklhcbidaaDoor.Ax
namespace Go.Proofs.YtbnoclklhcbidaaDoor.Ax
open Go Classical
def Af9 (n:Nat):Nat→Nat→List Int
 | 0,_=>[]
 | r+1,k=>Af9 n r (k/n)++[((k%n:Nat):Int)]
theorem Ak5 (n:Nat) : ∀r k,(Af9 n r k).length=r:=by
 intro r
 induction r with
 | zero=>intro k;rfl
 | succ r ih=>intro k;simp [Af9,ih]
theorem Au7 {n:Nat} (hn:0<n) : ∀r k,Mb (Af9 n r k) n:=by
 intro r
 induction r with
 | zero=>intro k x hx;cases hx
 | succ r ih=>
   intro k x hx
   simp only [Af9] at hx
   rcases List.mem_append.1 hx with hx | hx
   ·exact ih _ x hx
   ·rw [List.mem_singleton.1 hx]
    have:=Nat.mod_lt k hn
    omega
def Anq (m:Nat) (xs:List Int):Int:=xs.foldl (fun s x=>s*(m:Int)+x) 0
theorem Agt (m:Nat) (xs:List Int) (y:Int):Anq m (xs++[y])=Anq m xs*(m:Int)+y:=by
 unfold Anq;rw [List.foldl_append];rfl
theorem Auf {m:Nat} : ∀(r:Nat) (xs:List Int),xs.length=r→Mb xs m → ∃c:Nat,Anq m xs=(c:Int)∧c<m^r:=by
 intro r
 induction r with
 | zero=>
   intro xs hl _
   have:xs=[]:=List.length_eq_zero_iff.1 hl
   subst this
   exact ⟨0,rfl,by simp⟩
 | succ r ih=>
   intro xs hl hx
   obtain ⟨ys,y,rfl⟩ : ∃ys y,xs=ys++[y]:=by
    refine ⟨xs.take r,nth xs r,?_⟩
    rw [←Jx (by omega),List.take_of_length_le (by omega)]
   have hy:=hx y (by simp)
   obtain ⟨c,h1,h2⟩:=ih ys (by simpa using hl) fun z hz=>hx z (by simp [hz])
   obtain ⟨d,rfl⟩:=Int.eq_ofNat_of_zero_le hy.1
   refine ⟨c*m+d,by rw [Agt,h1];push_cast;rfl,?_⟩
   have h3:=Nat.mul_le_mul_right m (show c+1≤m^r from h2)
   rw [Nat.succ_mul] at h3
   rw [Nat.pow_succ]
   omega
theorem An0 {m:Nat} (hm:m≤8) {xs:List Int} (hl:xs.length≤3) (hx:Mb xs m) : ∃c:Nat,Anq m xs=(c:Int)∧c<m^xs.length∧c<512:=by
 obtain ⟨c,h1,h2⟩:=Auf xs.length xs rfl hx
 have:=Adz hm hl
 exact ⟨c,h1,h2,by omega⟩
def Au1 (n m:Nat) (f:List Int):Nat→Nat→Int
 | 0,_=>0
 | r+1,k=>Au1 n m f r (k/n)*(m:Int)+nth f (k%n)
theorem Aq8 (n m:Nat) (f:List Int) : ∀r k,Anq m ((Af9 n r k).map fun x=>nth f x.toNat)=Au1 n m f r k:=by
 intro r
 induction r with
 | zero=>intro k;rfl
 | succ r ih=>
   intro k
   simp only [Af9,Au1,List.map_append,List.map_cons,List.map_nil,Int.toNat_natCast]
   rw [Agt,ih]
theorem Aqa {n m:Nat} (hn:0<n) {f:List Int} (hf:f.length=n) (hfx:Mb f m) (r k:Nat):Mb ((Af9 n r k).map fun x=>nth f x.toNat) m:=by
 intro y hy
 obtain ⟨x,hx,rfl⟩:=List.mem_map.1 hy
 have:=Au7 hn r k x hx
 exact hfx _ (Cf (by omega))
structure Homs (a b:SAlgebra) (f:List Int) (n m:Nat):Prop where
 ga:B0 a
 gb:B0 b
 ty:Ak9 a=Ak9 b
 sa:a.Size=n
 sb:b.Size=m
 len:f.length=n
 fin:Mb f m
section
variable {a b:SAlgebra}
variable {f:List Int} {n m:Nat}
theorem Homs.ops (h:Homs a b f n m):a.Ops.length=b.Ops.length:=by
 have:=congrArg List.length h.ty
 simpa [Ak9] using this
theorem Homs.op (h:Homs a b f n m) {i:Nat} (hi:i<a.Ops.length) : ∃r:Nat,r≤3∧(nth a.Ops i).Arity=r∧(nth b.Ops i).Arity=r∧(nth a.Ops i).Table.length=n^r∧(nth b.Ops i).Table.length=m^r∧Mb (nth a.Ops i).Table n∧n^r≤512:=by
 have hn:a.Size.toNat=n:=by have:=h.sa;omega
 have hm:b.Size.toNat=m:=by have:=h.sb;omega
 have hn8:n≤8:=by have:=h.sa;have:=h.ga.2.1;omega
 obtain ⟨h1,h2,h3,h4⟩:=h.ga.2.2.2 _ (Cf hi)
 have hib:i<b.Ops.length:=by rw [←h.ops];exact hi
 obtain ⟨_,_,k3,_⟩:=h.gb.2.2.2 _ (Cf hib)
 have e:(nth a.Ops i).Arity=(nth b.Ops i).Arity:=by
  have e1:nth (Ak9 a) i=(nth a.Ops i).Arity:=Sy _ hi
  have e2:nth (Ak9 b) i=(nth b.Ops i).Arity:=Sy _ hib
  rw [←e1,←e2,h.ty]
 rw [hn] at h3 h4
 rw [hm,←e] at k3
 exact ⟨(nth a.Ops i).Arity.toNat,by omega,by omega,by omega,h3,k3,h4,Adz hn8 (by omega)⟩
theorem Homs.pos (h:Homs a b f n m):0<n∧n≤8∧0<m∧m≤8:=by
 have:=h.sa;have:=h.sb;have:=h.ga.1;have:=h.ga.2.1;have:=h.gb.1;have:=h.gb.2.1
 omega
theorem Homs.low (h:Homs a b f n m) {r k:Nat} (hr:r≤3) : ∃c:Nat,Au1 n m f r k=(c:Int)∧c<m^r:=by
 obtain ⟨hn,_,_,hm⟩:=h.pos
 obtain ⟨c,h1,h2,_⟩:=An0 hm (xs:=(Af9 n r k).map fun x=>nth f x.toNat) (by rw [List.length_map,Ak5];exact hr) (Aqa hn h.len h.fin r k)
 rw [Aq8] at h1
 rw [List.length_map,Ak5] at h2
 exact ⟨c,h1,h2⟩
end
def uniq (f:List Int):Prop := ∀i,i<f.length→nth f i∉f.take i
end Go.Proofs.YtbnoclklhcbidaaDoor.Ax
namespace Go.Proofs.YtbnoclklhcbidaaDoor.Ax
open Go Classical
structure Perm (f:List Int) (n:Nat):Prop where
 len:f.length=n
 fin:Mb f n
 un:uniq f
theorem Perm.count {f:List Int} {n:Nat} (h:Perm f n) : ∀i,i≤n→(Od n fun z=>decide ((z:Int)∈f.take i)).length=i:=by
 intro i
 induction i with
 | zero=>
   intro _
   rw [List.length_eq_zero_iff]
   exact Aqc.2 fun z _=>by simp
 | succ i ih=>
   intro hi
   have hil:i<f.length:=by rw [h.len];exact hi
   have hv:=h.fin _ (Cf hil)
   have hu:=h.un i hil
   have hc:nth f i=(((nth f i).toNat:Nat):Int):=by omega
   have:=Aq7 (q:=fun z=>decide ((z:Int)∈f.take i)) (q':=fun z=>decide ((z:Int)∈f.take (i+1))) (x:=(nth f i).toNat) (decide_eq_false (by rw [←hc];exact hu)) (fun z=>by
    rw [Jx hil,Bool.eq_iff_iff]
    simp only [decide_eq_true_eq,List.mem_append,List.mem_singleton,Bool.or_eq_true]
    constructor
    ·rintro (h1 | h1)
     ·exact .inl h1
     ·exact .inr (by omega)
    ·rintro (h1 | h1)
     ·exact .inl h1
     ·exact .inr (by omega)) n
   rw [this,ih (by omega),if_pos (by omega)]
end Go.Proofs.YtbnoclklhcbidaaDoor.Ax
namespace Go.Proofs.YtbnoclklhcbidaaDoor.Ax
open Go
def Cur (k:Nat) (c:Sl1Cur):Prop:=(∀x∈c.code,0≤x∧x≤255)∧c.code.length≤65536∧0≤c.at_∧c.at_≤k
theorem Cur.mono {k l:Nat} {c:Sl1Cur} (h:Cur k c) (hl:k≤l):Cur l c:=⟨h.1,h.2.1,h.2.2.1,by have:=h.2.2.2;omega⟩
theorem Atf {n:Int} (h0:0≤n) (h1:n≤255):IntKind.u64.wrap n=n:=by
 simp [IntKind.wrap,IntKind.bits,IntKind.signed]
 omega
theorem Ag7 {c:Sl1Cur} {k:Nat} (h:Cur k c) (hk:k≤1000000000) : ∃r d,Ed c=some (r,d)∧Cur (k+1) d∧0≤r∧r≤255:=by
 obtain ⟨h1,h2,h3,h4⟩:=h
 unfold Ed
 have fin : ∀q:Int,0≤q→q≤255 → ∃r d,(ask (InI (c.at_+1)) <|
   if c.at_+1≤(c.code.length:Int) then
    some (q,({ code:=c.code,at_:=c.at_+1,seed:=IntKind.u64.wrap (IntKind.u64.wrap (IntKind.u64.wrap (c.seed*6364136223846793005)+IntKind.u64.wrap q)+550289) }:Sl1Cur))
   else some (IntKind.i64.wrap (IntKind.u64.wrap (((BitVec.ofInt IntKind.u64.bits ((IntKind.u64.wrap (IntKind.u64.wrap (IntKind.u64.wrap (c.seed*6364136223846793005)+IntKind.u64.wrap q)+550289)).fdiv (2^min (Int.toNat 40) IntKind.u64.bits)) &&& BitVec.ofInt IntKind.u64.bits 255).toNat:Nat):Int)),
    ({ code:=c.code,at_:=c.at_+1,seed:=IntKind.u64.wrap (IntKind.u64.wrap (IntKind.u64.wrap (c.seed*6364136223846793005)+IntKind.u64.wrap q)+550289) }:Sl1Cur)))=some (r,d)∧Cur (k+1) d∧0≤r∧r≤255:=by
  intro q hq0 hq1
  rw [Ae (by unfold InI;omega)]
  split
  ·exact ⟨_,_,rfl,⟨h1,h2,by show 0≤c.at_+1;omega,by show c.at_+1≤((k+1:Nat):Int);omega⟩,hq0,hq1⟩
  ·refine ⟨_,_,rfl,⟨h1,h2,by show 0≤c.at_+1;omega,by show c.at_+1≤((k+1:Nat):Int);omega⟩,?_⟩
   generalize BitVec.ofInt IntKind.u64.bits ((IntKind.u64.wrap (IntKind.u64.wrap (IntKind.u64.wrap (c.seed*6364136223846793005)+IntKind.u64.wrap q)+550289)).fdiv (2^min (Int.toNat 40) IntKind.u64.bits))=b
   have hb:(b &&& BitVec.ofInt IntKind.u64.bits 255).toNat≤255:=by
    rw [BitVec.toNat_and]
    have:(BitVec.ofInt IntKind.u64.bits 255).toNat=255:=by decide
    rw [this]
    exact Nat.and_le_right
   generalize (b &&& BitVec.ofInt IntKind.u64.bits 255).toNat=z at hb
   rw [Atf (by omega) (by omega),My (by omega) (by omega)]
   omega
 by_cases hc:c.at_<(c.code.length:Int)
 ·rw [if_pos hc,Ae ⟨h3,hc⟩]
  have hm:=h1 _ (Cf (xs:=c.code) (i:=c.at_.toNat) (by omega))
  rw [My (by omega) (by omega)]
  simp only [Option.bind_some]
  exact fin _ hm.1 hm.2
 ·rw [if_neg hc]
  simp only [Option.bind_some]
  exact fin 0 (by omega) (by omega)
theorem D4 {c:Sl1Cur} {k:Nat} (h:Cur k c) (hk:k≤900000000) (n:Int) : ∃r d,Am c n=some (r,d)∧Cur (k+2) d∧0≤r∧(r<n∨(n≤1∧r=0)):=by
 unfold Am
 by_cases h1:n≤1
 ·rw [if_pos h1];exact ⟨0,c,rfl,h.mono (by omega),by omega,.inr ⟨h1,rfl⟩⟩
 ·rw [if_neg h1]
  obtain ⟨r,d,e,hd,a1,a2⟩:=Ag7 h (by omega)
  simp only [e,Option.bind_some]
  by_cases h2:n>200
  ·rw [if_pos h2,Ae (by unfold InI;omega)]
   obtain ⟨r2,d2,e2,hd2,b1,b2⟩:=Ag7 hd (by omega)
   simp only [e2,Option.bind_some]
   rw [Ae (by unfold InI;omega),Ae (by omega)]
   refine ⟨_,_,rfl,hd2,Int.tmod_nonneg _ (by omega),.inl ?_⟩
   exact Int.tmod_lt_of_pos _ (by omega)
  ·rw [if_neg h2,Ae (by omega)]
   refine ⟨_,_,rfl,hd.mono (by omega),Int.tmod_nonneg _ (by omega),.inl ?_⟩
   exact Int.tmod_lt_of_pos _ (by omega)
theorem Tj {c:Sl1Cur} {k:Nat} (h:Cur k c) (hk:k≤900000000) (n:Int) : ∃b d,Cg c n=some (b,d)∧Cur (k+2) d:=by
 unfold Cg
 obtain ⟨r,d,e,hd,_,_⟩:=D4 h hk n
 simp only [e,Option.bind_some]
 exact ⟨_,_,rfl,hd⟩
theorem Fv {c:Sl1Cur} {k:Nat} (h:Cur k c) (hk:k≤900000000) (l:List Int) (h0:0<l.length) : ∃r d,Al c l=some (r,d)∧Cur (k+2) d∧r∈l:=by
 unfold Al
 obtain ⟨r,d,e,hd,a1,a2⟩:=D4 h hk (l.length:Int)
 simp only [e,Option.bind_some]
 rw [Ae (by omega)]
 exact ⟨_,_,rfl,hd,Cf (by omega)⟩
open Classical
end Go.Proofs.YtbnoclklhcbidaaDoor.Ax
namespace Go.Proofs.YtbnoclklhcbidaaDoor.Ax
open Go Classical
def As2 (n r k:Nat) (S:Nat→Bool):Prop := ∀x∈Af9 n r k,S x.toNat=true
def Avo (a:SAlgebra) (i k:Nat) (S:Nat→Bool):Prop:=As2 a.Size.toNat (nth a.Ops i).Arity.toNat k S
def Au2 (H:List Bool):Nat:=H.count true
section
variable {a:SAlgebra}
structure ReadyA (a:SAlgebra) (n:Nat):Prop where
 good:B0 a
 sz:a.Size=(n:Int)
 pos:0<n
 le:n≤8
theorem ReadyA.nat {n:Nat} (h:ReadyA a n):a.Size.toNat=n:=by have:=h.sz;omega
theorem ReadyA.op {n:Nat} (h:ReadyA a n) {i:Nat} (hi:i<a.Ops.length) : ∃r:Nat,(nth a.Ops i).Arity=(r:Int)∧r≤3∧(nth a.Ops i).Table.length=n^r∧Mb (nth a.Ops i).Table n∧(nth a.Ops i).Table.length≤512∧(∀k S,Avo a i k S↔As2 n r k S):=by
 have:=h.good.2.2.2 _ (Cf hi)
 rw [h.nat] at this
 obtain ⟨h1,h2,h3,h4⟩:=this
 refine ⟨(nth a.Ops i).Arity.toNat,by omega,by omega,h3,h4,?_,fun k S=>by unfold Avo;rw [h.nat]⟩
 rw [h3];exact Adz h.le (by omega)
structure Pass (n:Nat) (G:Nat→Bool) (c0:Bool) (H0:List Bool) (c:Bool) (H:List Bool) (done:(Nat→Bool)→Prop):Prop where
 len:H.length=n
 more : ∀z,nth H0 z=true→nth H z=true
 low : ∀z,nth H z=true→G z=true
 up:c=true→c0=true∨Au2 H0<Au2 H
 no:c=false→c0=false∧H=H0∧done (nth H)
 mono:Au2 H0≤Au2 H
end
end Go.Proofs.YtbnoclklhcbidaaDoor.Ax
namespace Go.Proofs.YtbnoclklhcbidaaDoor.Ax
open Go Classical
theorem Re {α β:Type} {o:Option α} {k:α→Option β} {Q:α→Prop} {R:β→Prop} (h : ∃a,o=some a∧Q a) (h2 : ∀a,Q a → ∃b,k a=some b∧R b) : ∃b,o.bind k=some b∧R b:=by
 obtain ⟨a,e,hq⟩:=h
 rw [e];exact h2 a hq
theorem Awh {β:Type} {c:Prop} [Decidable c] {x y:Option β} {R:β→Prop} (h1:c → ∃b,x=some b∧R b) (h2:¬c → ∃b,y=some b∧R b) : ∃b,(if c then x else y)=some b∧R b:=by
 split
 ·exact h1 ‹_›
 ·exact h2 ‹_›
def Lu (a:SAlgebra):Prop:=a.Ops.length≤10 ∧ ∀f∈a.Ops,f.Table.length≤101
theorem Hg {a:SAlgebra} (h:Lu a):N5 a:=⟨by have:=h.1;omega,fun f hf=>by have:=h.2 f hf;omega⟩
theorem Akf (s:ByteArray) (hs:s.size≤100) : ∃f,Bb s=some f∧f.Table.length≤100:=by
 have hL:=Co
 unfold Bb
 obtain ⟨f,e,hf⟩:=F8 (body:=E6 s) (fun t => ∃j:Nat,t.1=(j:Int)∧j≤s.size∧t.2.Table.length≤j) (fun t=>s.size-t.1.toNat) (fun f=>f.Table.length≤100) (fun t ht=>by
  obtain ⟨x4,x3⟩:=t
  obtain ⟨j,g1,g2,g3⟩:=ht
  simp only at g1 g2 g3
  subst g1
  unfold E6
  dsimp only
  by_cases hj:(j:Int)<(s.size:Int)
  ·left
   rw [if_pos hj,Ae (by omega),Ae (by simp;omega),Ae (by unfold InI;omega)]
   exact ⟨_,rfl,⟨j+1,rfl,by omega,by simp;omega⟩,by simp only;omega⟩
  ·right
   rw [if_neg hj]
   exact ⟨_,rfl,by omega⟩) (s:=((0:Int),({ Arity:=2,Table:=A4 Int }:SOp))) ⟨0,rfl,Nat.zero_le _,by simp [A4]⟩
 rw [e]
 exact ⟨_,rfl,hf⟩
theorem Aln {n:Int} (hn:n=2∨n=3) : ∃f,Fi n=some f∧f.Table.length≤100:=by
 have hL:=Co
 unfold Fi
 obtain ⟨f,e,hf⟩:=F8 (body:=Fc n) (fun t => ∃j:Nat,t.1=(j:Int)∧j≤27∧t.2.Table.length≤j) (fun t=>27-t.1.toNat) (fun f=>f.Table.length≤100) (fun t ht=>by
  obtain ⟨x4,x3⟩:=t
  obtain ⟨j,g1,g2,g3⟩:=ht
  simp only at g1 g2 g3
  subst g1
  unfold Fc
  dsimp only
  have d1 : ∀m:Int,(j:Int).tdiv m=(j:Int)/m:=fun m=>Int.tdiv_eq_ediv_of_nonneg (by omega)
  have d2 : ∀m:Int,(j:Int).tmod m=(j:Int)%m:=fun m=>Int.tmod_eq_emod_of_nonneg (by omega)
  rw [d1,d1,d2]
  rcases hn with rfl | rfl
  ·have d3:((j:Int)/2).tmod 2=((j:Int)/2)%2:=Int.tmod_eq_emod_of_nonneg (by omega)
   rw [d3]
   by_cases hj:(j:Int)<2*2*2
   ·left
    rw [Ae (by unfold InI;omega),Ae (by unfold InI;omega),if_pos hj]
    rw [Ae (by unfold InI;omega),Ae (by unfold InI;omega),Ae (by unfold InI;omega),Ae (by unfold InI;omega),Ae (by omega),Ae (by unfold InI;omega),Ae (by omega),Ae (by unfold InI;omega),Ae (by omega),Ae (by simp;omega),Ae (by unfold InI;omega)]
    exact ⟨_,rfl,⟨j+1,rfl,by omega,by simp;omega⟩,by simp only;omega⟩
   ·right
    rw [Ae (by unfold InI;omega),Ae (by unfold InI;omega),if_neg hj]
    exact ⟨_,rfl,by omega⟩
  ·have d3:((j:Int)/3).tmod 3=((j:Int)/3)%3:=Int.tmod_eq_emod_of_nonneg (by omega)
   rw [d3]
   by_cases hj:(j:Int)<3*3*3
   ·left
    rw [Ae (by unfold InI;omega),Ae (by unfold InI;omega),if_pos hj]
    rw [Ae (by unfold InI;omega),Ae (by unfold InI;omega),Ae (by unfold InI;omega),Ae (by unfold InI;omega),Ae (by omega),Ae (by unfold InI;omega),Ae (by omega),Ae (by unfold InI;omega),Ae (by omega),Ae (by simp;omega),Ae (by unfold InI;omega)]
    exact ⟨_,rfl,⟨j+1,rfl,by omega,by simp;omega⟩,by simp only;omega⟩
   ·right
    rw [Ae (by unfold InI;omega),Ae (by unfold InI;omega),if_neg hj]
    exact ⟨_,rfl,by omega⟩) (s:=((0:Int),({ Arity:=3,Table:=A4 Int }:SOp))) ⟨0,rfl,Nat.zero_le _,by simp [A4]⟩
 rw [e]
 exact ⟨_,rfl,hf⟩
theorem Ai7 (k:Int) : ∃a,Hm k=some a∧Lu a:=by
 have fin0 : ∀ {z:Int},Lu { Size:=z,Ops:=A4 SOp }:=⟨by simp [A4],fun f hf=>by simp [A4] at hf⟩
 have fin1 : ∀ {z:Int} {f:SOp},f.Table.length≤100→Lu { Size:=z,Ops:=[f] }:=fun h=>⟨by simp,fun f hf=>by simp at hf;subst hf;omega⟩
 have fin2 : ∀ {z:Int} {f g:SOp},f.Table.length≤100→g.Table.length≤100→Lu { Size:=z,Ops:=[f,g] }:=fun h1 h2=>⟨by simp,fun f hf=>by
  simp only [List.mem_cons,List.not_mem_nil,or_false] at hf
  rcases hf with rfl | rfl<;>omega⟩
 have fin3 : ∀ {z:Int} {f g e:SOp},f.Table.length≤100→g.Table.length≤100→e.Table.length≤100→Lu { Size:=z,Ops:=[f,g,e] }:=fun h1 h2 h3=>⟨by simp,fun f hf=>by
  simp only [List.mem_cons,List.not_mem_nil,or_false] at hf
  rcases hf with rfl | rfl | rfl<;>omega⟩
 unfold Hm
 repeat' (first | refine Awh (fun _=> ?_) (fun _=> ?_) | refine Re (Akf _ (by decide)) fun f hf=> ?_ | refine Re (Aln (by simp)) fun f hf=> ?_)
 all_goals
  first
   | exact ⟨_,rfl,fin0⟩
   | exact ⟨_,rfl,fin1 (by first | assumption | decide)⟩
   | exact ⟨_,rfl,fin2 (by first | assumption | decide) (by first | assumption | decide)⟩
   | exact ⟨_,rfl,fin3 (by first | assumption | decide) (by first | assumption | decide) (by first | assumption | decide)⟩
theorem M3 {c:Sl1Cur} {k:Nat} (h:Cur k c) (hk:k≤600000000) : ∃a d,Cb c=some (a,d)∧Cur (k+1000) d∧Lu a:=by
 have hL:=Co
 unfold Cb
 obtain ⟨b,d,e,hd⟩:=Tj h (by omega) 4
 rw [e]
 simp only [Option.bind_some]
 by_cases hb:b=true
 ·rw [if_pos hb]
  obtain ⟨n,d2,e2,hd2,hn⟩:=Fv hd (by omega) [2,2,3,3,4] (by simp)
  rw [e2]
  simp only [Option.bind_some]
  obtain ⟨m,d3,e3,hd3,hm⟩:=Fv hd2 (by omega) [1,1,2] (by simp)
  rw [e3]
  simp only [Option.bind_some]
  obtain ⟨N,rfl,hN⟩ : ∃N:Nat,n=(N:Int)∧2≤N∧N≤4:=⟨n.toNat,by simp at hn;omega,by simp at hn;omega⟩
  obtain ⟨M,rfl,hM⟩ : ∃M:Nat,m=(M:Int)∧1≤M∧M≤2:=⟨m.toNat,by simp at hm;omega,by simp at hm;omega⟩
  obtain ⟨⟨a,d4⟩,e4,⟨ha1,ha2,ha3⟩,hd4⟩:=F8 (body:=C4 (N:Int)) (fun s => ∃j:Nat,s.1=(j:Int)∧j≤M∧s.2.1.Size=(N:Int)∧s.2.1.Ops.length=M-j∧(∀f∈s.2.1.Ops,1≤f.Table.length∧f.Table.length≤64)∧Cur (k+6+200*(M-j)) s.2.2) (fun s=>s.1.toNat)
   (fun t=>(t.1.Size=(N:Int)∧t.1.Ops.length=M ∧ ∀f∈t.1.Ops,1≤f.Table.length∧f.Table.length≤64)∧Cur (k+500) t.2) (fun s hs=>by
   obtain ⟨x6,x5,x1⟩:=s
   obtain ⟨j,g1,g2,g3,g4,g5,g6⟩:=hs
   simp only at g1 g2 g3 g4 g5 g6
   subst g1
   unfold C4
   dsimp only
   by_cases hj:(j:Int)>0
   ·left
    rw [if_pos hj]
    obtain ⟨r,d5,e5,hd5,hr⟩:=Fv g6 (by omega) [0,1,2,2,3] (by simp)
    rw [e5]
    simp only [Option.bind_some]
    obtain ⟨R,rfl,hR⟩ : ∃R:Nat,r=(R:Int)∧R≤3:=⟨r.toNat,by simp at hr;omega,by simp at hr;omega⟩
    have hop : ∃f:SOp,((if (N:Int)=4 then if (R:Int)=3 then some ({ Arity:=2,Table:=A4 Int }:SOp) else some { Arity:=(R:Int),Table:=A4 Int } else some { Arity:=(R:Int),Table:=A4 Int }:Option SOp))=some f∧f.Table=[] ∧ ∃Q:Nat,f.Arity=(Q:Int)∧1≤N^Q∧N^Q≤64∧Q≤3:=by
     by_cases h4:(N:Int)=4
     ·rw [if_pos h4]
      have h4:N=4:=by omega
      subst h4
      by_cases h3:(R:Int)=3
      ·rw [if_pos h3];exact ⟨_,rfl,rfl,2,rfl,by decide⟩
      ·rw [if_neg h3]
       refine ⟨_,rfl,rfl,R,rfl,?_⟩
       have:R=0∨R=1∨R=2:=by omega
       rcases this with rfl | rfl | rfl<;>decide
     ·rw [if_neg h4]
      refine ⟨_,rfl,rfl,R,rfl,?_⟩
      have h5:N=2∨N=3:=by omega
      have:R=0∨R=1∨R=2∨R=3:=by omega
      rcases h5 with rfl | rfl<;>rcases this with rfl | rfl | rfl | rfl<;>decide
    obtain ⟨f,ef,ht,Q,hQ,q1,q2,q3⟩:=hop
    rw [ef]
    simp only [Option.bind_some]
    rw [hQ,Aoz (by omega) q3]
    simp only [Option.bind_some]
    obtain ⟨⟨f2,d6⟩,e6,hf2,hd6⟩:=F8 (body:=Dc (N:Int) (j:Int) x5) (fun s => ∃i:Nat,s.1=(i:Int)∧i≤N^Q∧s.2.1.Table.length=N^Q-i∧Cur (k+6+200*(M-j)+2+2*(N^Q-i)) s.2.2) (fun s=>s.1.toNat) (fun t=>t.1.Table.length=N^Q∧Cur (k+6+200*(M-j)+2+2*N^Q) t.2) (fun s hs=>by
     obtain ⟨x8,x7,x9⟩:=s
     obtain ⟨i,k1,k2,k3,k4⟩:=hs
     simp only at k1 k2 k3 k4
     subst k1
     unfold Dc
     dsimp only
     by_cases hi:(i:Int)>0
     ·left
      rw [if_pos hi]
      obtain ⟨v,d7,e7,hd7,_⟩:=D4 k4 (by omega) (N:Int)
      rw [e7]
      simp only [Option.bind_some]
      rw [Ae (by simp;omega),Ae (by unfold InI;omega)]
      exact ⟨_,rfl,⟨i-1,by simp only;omega,by omega,by simp;omega,hd7.mono (by omega)⟩,by simp only;omega⟩
     ·right
      rw [if_neg hi]
      exact ⟨_,rfl,by simp only;omega,k4.mono (by omega)⟩) (s:=(((N^Q:Nat):Int),f,d5)) ⟨N^Q,rfl,Nat.le_refl _,by simp [ht],hd5.mono (by omega)⟩
    rw [e6]
    simp only [Option.bind_some]
    rw [Ae (by simp;omega),Ae (by unfold InI;omega)]
    simp only at hf2 hd6
    refine ⟨_,rfl,⟨j-1,by simp only;omega,by omega,g3,by simp;omega,fun f hf=> ?_,hd6.mono (by omega)⟩,by simp only;omega⟩
    rcases List.mem_append.1 hf with h' | h'
    ·exact g5 f h'
    ·rw [List.mem_singleton.1 h'];omega
   ·right
    rw [if_neg hj]
    exact ⟨_,rfl,⟨g3,by simp only;omega,g5⟩,g6.mono (by omega)⟩) (s:=((M:Int),({ Size:=(N:Int),Ops:=A4 SOp }:SAlgebra),d3)) ⟨M,rfl,Nat.le_refl _,rfl,by simp [A4],fun f hf=>by simp [A4] at hf,hd3.mono (by omega)⟩
  rw [e4]
  simp only [Option.bind_some]
  simp only at ha1 ha2 ha3 hd4
  have h0:0<a.Ops.length:=by omega
  have hf0:=ha3 _ (Cf h0)
  have ht:Lu a:=⟨by omega,fun f hf=>by have:=ha3 f hf;omega⟩
  have hset : ∀ {z:Int} {f:SOp},f.Table.length≤101→Lu { Size:=z,Ops:=a.Ops.set (Int.toNat 0) f }:=fun hf=>⟨by simp;omega,fun g hg=>by
   rcases List.mem_or_eq_of_mem_set hg with h' | h'
   ·have:=ha3 g h';omega
   ·rw [h'];exact hf⟩
  obtain ⟨w,d5,e5,hd5,w0,_⟩:=D4 hd4 (by omega) 16
  rw [e5]
  simp only [Option.bind_some]
  by_cases c0:w=0
  ·rw [if_pos c0,Ae (by unfold InI;omega)]
   obtain ⟨r,d6,e6,hd6,_⟩:=Fv hd5 (by omega) [0,9,(N:Int)+1] (by simp)
   rw [e6]
   exact ⟨_,_,rfl,hd6.mono (by omega),ht⟩
  rw [if_neg c0]
  by_cases c1:w=1
  ·rw [if_pos c1,Ae (by omega),Ae (by simp only [Int.toNat_zero,List.length_singleton];omega)]
   exact ⟨_,_,rfl,hd5.mono (by omega),hset (by simp only [Int.toNat_zero,List.length_append,List.length_singleton];omega)⟩
  rw [if_neg c1]
  by_cases c2:w=2
  ·rw [if_pos c2,Ae (by omega)]
   obtain ⟨r,d6,e6,hd6,r0,r1⟩:=D4 hd5 (by omega) ((nth a.Ops (Int.toNat 0)).Table.length:Int)
   rw [e6]
   simp only [Option.bind_some]
   obtain ⟨s,d7,e7,hd7,_⟩:=Fv hd6 (by omega) [-1,(N:Int)] (by simp)
   rw [e7]
   simp only [Option.bind_some]
   simp only [Int.toNat_zero] at r1 ⊢
   rw [Ae (by omega)]
   exact ⟨_,_,rfl,hd7.mono (by omega),hset (by simp only [List.length_set];omega)⟩
  rw [if_neg c2]
  by_cases c3:w=3
  ·rw [if_pos c3]
   obtain ⟨r,d6,e6,hd6,_⟩:=Fv hd5 (by omega) [-1,4] (by simp)
   rw [e6]
   simp only [Option.bind_some]
   rw [Ae (by omega)]
   exact ⟨_,_,rfl,hd6.mono (by omega),hset (by simp only [Int.toNat_zero];omega)⟩
  rw [if_neg c3]
  by_cases c4:w=4
  ·rw [if_pos c4]
   obtain ⟨⟨a2,d6⟩,e6,ht2,hd6⟩:=F8 (body:=Db (N:Int)) (fun s=>s.1.Ops.length≤5∧(∀f∈s.1.Ops,f.Table.length≤64)∧Cur (k+502+2*s.1.Ops.length) s.2) (fun s=>5-s.1.Ops.length) (fun t=>Lu t.1∧Cur (k+600) t.2) (fun s hs=>by
    obtain ⟨x5,x1⟩:=s
    obtain ⟨g1,g2,g3⟩:=hs
    simp only at g1 g2 g3
    unfold Db
    dsimp only
    obtain ⟨r,d7,e7,hd7,r0,r1⟩:=D4 g3 (by omega) 2
    rw [e7]
    simp only [Option.bind_some]
    rw [Ae (by unfold InI;omega)]
    by_cases hl:(x5.Ops.length:Int)<4+r
    ·left
     rw [if_pos hl,Ae (by omega),Ae (by simp;omega)]
     refine ⟨_,rfl,⟨by simp;omega,fun f hf=> ?_,hd7.mono (by simp;omega)⟩,by simp;omega⟩
     rcases List.mem_append.1 hf with h' | h'
     ·exact g2 f h'
     ·rw [List.mem_singleton.1 h'];simp;omega
    ·right
     rw [if_neg hl]
     exact ⟨_,rfl,⟨by simp only;omega,fun f hf=>by have:=g2 f hf;omega⟩,hd7.mono (by omega)⟩) (s:=(a,d5)) ⟨by simp only;omega,fun f hf=>(ha3 f hf).2,hd5.mono (by omega)⟩
   rw [e6]
   exact ⟨_,_,rfl,hd6.mono (by omega),ht2⟩
  rw [if_neg c4]
  exact ⟨_,_,rfl,hd5.mono (by omega),ht⟩
 ·rw [if_neg hb]
  obtain ⟨r,d2,e2,hd2,_⟩:=D4 hd (by omega) 17
  rw [e2]
  simp only [Option.bind_some]
  obtain ⟨a,e3,ht⟩:=Ai7 r
  rw [e3]
  exact ⟨_,_,rfl,hd2.mono (by omega),ht⟩
theorem Acj {code:List Int} (hc : ∀x∈code,0≤x∧x≤255) (hl:code.length≤65536):Cur 0 ({ code:=code,at_:=0,seed:=0 }:Sl1Cur):=⟨hc,hl,Int.le_refl _,Int.le_refl _⟩
end Go.Proofs.YtbnoclklhcbidaaDoor.Ax
namespace Go.Proofs.YtbnoclklhcbidaaDoor.Ax
open Go Classical
def arT (a:SAlgebra) (x:Int):Nat:=(nth a.Ops (-1-x).toNat).Arity.toNat
def Sc (a:SAlgebra) (x:Int):Prop:=x<6 ∧ -(a.Ops.length:Int)≤x
def nxT (a:SAlgebra) (m:Nat) (x:Int):Nat:=if 0≤x then m else m+arT a x
def WF (a:SAlgebra):Nat→List Int→Prop
 | m,[]=>m=0
 | 0,_::_=>False
 | m+1,x::l=>Sc a x∧WF a (nxT a m x) l
noncomputable def Un (a:SAlgebra):Nat→List Int→Option Nat
 | 0,_=>some 0
 | _+1,[]=>none
 | m+1,x::l=>if Sc a x then (Un a (nxT a m x) l).map (· + 1) else none
section
variable {a:SAlgebra}
theorem WF.nil {m:Nat}:WF a m []↔m=0:=by cases m<;>simp [WF]
theorem WF.zero {l:List Int} (h:WF a 0 l):l=[]:=by cases l with
 | nil=>rfl
 | cons x r=>cases h
theorem WF.cons {m:Nat} {x:Int} {l:List Int} (h:WF a m (x::l)) : ∃k,m=k+1∧Sc a x∧WF a (nxT a k x) l:=by
 cases m with
 | zero=>cases h
 | succ k=>exact ⟨k,rfl,h⟩
theorem Ao1 : ∀ {l:List Int} {m k:Nat},Un a m l=some k→k≤l.length∧WF a m (l.take k)
 | [],m,k,h=>by
   cases m with
   | zero=>cases h;exact ⟨Nat.le_refl _,rfl⟩
   | succ m=>cases h
 | x::l,0,k,h=>by cases h;exact ⟨Nat.zero_le _,rfl⟩
 | x::l,m+1,k,h=>by
   simp only [Un] at h
   split at h
   ·rename_i hs
    obtain ⟨j,h1,rfl⟩:=Option.map_eq_some_iff.1 h
    obtain ⟨h2,h3⟩:=Ao1 h1
    exact ⟨by simp;omega,hs,h3⟩
   ·cases h
theorem Acl : ∀ {p:List Int} {m:Nat} (q:List Int),WF a m p→Un a m (p++q)=some p.length
 | [],m,q,h=>by
   rw [WF.nil.1 h]
   cases q<;>rfl
 | x::p,0,q,h=>by cases h
 | x::p,m+1,q,h=>by
   simp only [List.cons_append,Un]
   rw [if_pos h.1,Acl q h.2]
   rfl
theorem WF.append : ∀ {p q:List Int} {m k:Nat},WF a m p→WF a k q→WF a (m+k) (p++q)
 | [],q,m,k,h,h2=>by rw [WF.nil.1 h,Nat.zero_add];exact h2
 | x::p,q,0,k,h,_=>by cases h
 | x::p,q,m+1,k,h,h2=>by
   have e:m+1+k=(m+k)+1:=by omega
   rw [e]
   refine ⟨h.1,?_⟩
   have:=WF.append h.2 h2
   have e2:nxT a m x+k=nxT a (m+k) x:=by unfold nxT;split<;>omega
   rw [e2] at this
   exact this
theorem WF.one : ∀ {l:List Int} {m k:Nat},WF a m l→WF a k l→m=k
 | [],m,k,h,h2=>(WF.nil.1 h).trans (WF.nil.1 h2).symm
 | x::l,m,k,h,h2=>by
   obtain ⟨m',rfl,_,h3⟩:=h.cons
   obtain ⟨k',rfl,_,h4⟩:=h2.cons
   have:=WF.one h3 h4
   unfold nxT at this
   split at this<;>omega
theorem WF.split : ∀ {l:List Int} (m:Nat) {k:Nat},WF a (m+k) l → ∃p q,l=p++q∧WF a m p∧WF a k q
 | [],m,k,h=>by
   have:=WF.nil.1 h
   exact ⟨[],[],rfl,WF.nil.2 (by omega),WF.nil.2 (by omega)⟩
 | x::l,0,k,h=>⟨[],x::l,rfl,rfl,by simpa using h⟩
 | x::l,m+1,k,h=>by
   have e:m+1+k=(m+k)+1:=by omega
   rw [e] at h
   have e2:nxT a (m+k) x=nxT a m x+k:=by unfold nxT;split<;>omega
   have h2:=h.2
   rw [e2] at h2
   obtain ⟨p,q,rfl,h3,h4⟩:=WF.split (nxT a m x) h2
   exact ⟨x::p,q,rfl,⟨h.1,h3⟩,h4⟩
theorem WF.suffix : ∀ {l:List Int} {m:Nat} (i:Nat),WF a m l → ∃k,WF a k (l.drop i)
 | l,m,0,h=>⟨m,h⟩
 | [],m,i+1,h=>⟨0,rfl⟩
 | x::l,m,i+1,h=>by
   obtain ⟨k,rfl,_,h2⟩:=h.cons
   exact WF.suffix i h2
theorem WF.swap : ∀ {p X Y:List Int} {m k:Nat},WF a m (p++X)→WF a k X→WF a k Y→WF a m (p++Y)
 | [],X,Y,m,k,h,h2,h3=>by
   have:=WF.one h h2
   subst this;exact h3
 | x::p,X,Y,m,k,h,h2,h3=>by
   obtain ⟨m',rfl,hs,h4⟩:=WF.cons (l:=p++X) h
   exact ⟨hs,WF.swap h4 h2 h3⟩
theorem WF.sym : ∀ {l:List Int} {m:Nat},WF a m l → ∀x∈l,Sc a x
 | [],_,_,x,hx=>by cases hx
 | y::l,m,h,x,hx=>by
   obtain ⟨k,rfl,hs,h2⟩:=h.cons
   rcases List.mem_cons.1 hx with rfl | hx
   ·exact hs
   ·exact WF.sym h2 x hx
theorem WF.pos {l:List Int} {m:Nat} (h:WF a (m+1) l):0<l.length:=by
 cases l with
 | nil=>exact absurd (WF.nil.1 h) (by omega)
 | cons x r=>simp
def Jj {β:Type} (a:SAlgebra) (v:Int→β) (f:Int→List β→β):List Int→List β→List β
 | [],st=>st
 | x::l,st=>if 0≤x then v x::Jj a v f l st else f x ((Jj a v f l st).take (arT a x))::(Jj a v f l st).drop (arT a x)
section
variable {β:Type} {v:Int→β} {f:Int→List β→β}
theorem H4 : ∀(p q:List Int) (st:List β),Jj a v f (p++q) st=Jj a v f p (Jj a v f q st)
 | [],_,_=>rfl
 | x::p,q,st=>by simp only [List.cons_append,Jj,H4 p q st]
theorem Aev : ∀ {l:List Int} {m:Nat},WF a m l → ∃vs:List β,vs.length=m ∧ ∀st,Jj a v f l st=vs++st
 | [],m,h=>⟨[],(WF.nil.1 h).symm,fun _=>rfl⟩
 | x::l,m,h=>by
   obtain ⟨k,rfl,_,h2⟩:=h.cons
   obtain ⟨ws,h3,h4⟩:=Aev h2
   by_cases hx:0≤x
   ·refine ⟨v x::ws,by simp [h3,nxT,hx],fun st=> ?_⟩
    simp only [Jj,if_pos hx,h4,List.cons_append]
   ·have hl:ws.length=k+arT a x:=by rw [h3];simp [nxT,hx]
    refine ⟨f x (ws.take (arT a x))::ws.drop (arT a x),by simp;omega,fun st=> ?_⟩
    simp only [Jj,if_neg hx,h4]
    rw [List.take_append_of_le_length (by omega),List.drop_append_of_le_length (by omega)]
    rfl
def Ak8 [Inhabited β] (a:SAlgebra) (v:Int→β) (f:Int→List β→β) (t:List Int):β:=nth (Jj a v f t []) 0
theorem Zt [Inhabited β] {t:List Int} (h:WF a 1 t) (st:List β):Jj a v f t st=Ak8 a v f t::st:=by
 obtain ⟨vs,h1,h2⟩:=Aev (v:=v) (f:=f) h
 obtain ⟨w,rfl⟩:=List.length_eq_one_iff.1 h1
 unfold Ak8
 rw [h2,h2]
 rfl
theorem Aqh {l:List Int} {m:Nat} (h:WF a m l):(Jj a v f l []).length=m:=by
 obtain ⟨vs,h1,h2⟩:=Aev (v:=v) (f:=f) h
 rw [h2];simpa using h1
end
def Kf (terms:List (List Int)) (t:List Int):List Int:=t.flatMap fun x=>if x<0 then [x] else nth terms x.toNat
theorem Ahh {terms:List (List Int)} {x:Int} {l:List Int}:Kf terms (x::l)=(if x<0 then [x] else nth terms x.toNat)++Kf terms l:=rfl
theorem Aqf {terms:List (List Int)} {x:Int} {l:List Int}:Kf terms (l++[x])=Kf terms l++(if x<0 then [x] else nth terms x.toNat):=by
 unfold Kf;rw [List.flatMap_append];simp
noncomputable def endA (a:SAlgebra) (t:List Int) (i:Nat):Int:=match Un a 1 (t.drop i) with
 | some k=>((i+k:Nat):Int)
 | none=> -1
theorem Ac2 {m:Nat} (h:m≤10):IntKind.i64.wrap (0-(m:Int)) = -(m:Int):=by
 rw [My (by omega) (by omega)];omega
theorem B0.op (hg:B0 a) {x:Int} (h1:x<0) (h2 : -(a.Ops.length:Int)≤x):(-1-x).toNat<a.Ops.length∧(nth a.Ops (-1-x).toNat).Arity=(arT a x:Int)∧arT a x≤3∧(nth a.Ops (-1-x).toNat).Table.length=a.Size.toNat^arT a x∧Mb (nth a.Ops (-1-x).toNat).Table a.Size.toNat:=by
 have hi:(-1-x).toNat<a.Ops.length:=by omega
 obtain ⟨o1,o2,o3,o4⟩:=hg.2.2.2 _ (Cf hi)
 unfold arT
 refine ⟨hi,by omega,by omega,o3,?_⟩
 exact o4
theorem Ami (hg:B0 a) {t:List Int} (hl:t.length≤1000) : ∀(k i m:Nat),i+k=t.length→m+3*k≤100000 →
  A7 (B6 a t) ((m:Int),(i:Int))=some (match Un a m (t.drop i) with | some e=> .inr ((i+e:Nat):Int) | none=> .inl ()):=by
 have h4:=hg.2.2.1
 intro k
 induction k with
 | zero=>
   intro i m hi hm
   have ed:t.drop i=[]:=List.drop_eq_nil_of_le (by omega)
   rw [ed]
   refine Bg ?_
   unfold B6
   dsimp only
   cases m with
   | zero=>rw [if_neg (by omega)];rfl
   | succ m=>rw [if_pos (by omega),if_pos (by omega)];rfl
 | succ k ih=>
   intro i m hi hm
   have hlt:i<t.length:=by omega
   rw [F6 hlt]
   cases m with
   | zero=>
     refine Bg ?_
     unfold B6
     dsimp only
     rw [if_neg (by omega)];rfl
   | succ m=>
     generalize hx:nth t i=x
     simp only [Un]
     have hb:((if x≥6 then
       some true
       else
       some (decide (x<IntKind.i64.wrap (0-(a.Ops.length:Int)))):Option Bool))=some (decide (¬Sc a x)):=by
      rw [Ac2 (by omega)]
      by_cases c:x≥6
      ·have hn:¬Sc a x:=fun hh=>by have:=hh.1;omega
       rw [if_pos c,decide_eq_true hn]
      ·rw [if_neg c]
       congr 1
       rw [decide_eq_decide]
       unfold Sc
       omega
     by_cases hs:Sc a x
     ·rw [if_pos hs]
      by_cases h0:0≤x
      ·have step:B6 a t (((m+1:Nat):Int),(i:Int))=some (.inl ((m:Int),((i+1:Nat):Int))):=by
        unfold B6
        dsimp only
        rw [if_pos (by omega),if_neg (by omega),Ae (by omega),Int.toNat_natCast,hx,hb]
        simp only [Option.bind_some]
        rw [decide_eq_false (fun hh=>hh hs),if_neg (by simp),if_pos h0,Ae (by unfold InI;omega),Ae (by unfold InI;omega)]
        congr 3;omega
       rw [C1 step,ih (i+1) m (by omega) (by omega),nxT,if_pos h0]
       cases Un a m (t.drop (i+1)) with
       | none=>rfl
       | some e=>simp only [Option.map_some];congr 3;omega
      ·obtain ⟨o1,o2,o3,_,_⟩:=hg.op (x:=x) (by omega) hs.2
       have step:B6 a t (((m+1:Nat):Int),(i:Int))=some (.inl (((m+arT a x:Nat):Int),((i+1:Nat):Int))):=by
        unfold B6
        dsimp only
        rw [if_pos (by omega),if_neg (by omega),Ae (by omega),Int.toNat_natCast,hx,hb]
        simp only [Option.bind_some]
        rw [decide_eq_false (fun hh=>hh hs),if_neg (by simp),if_neg (by omega),Ae (by unfold InI;omega),Ae (by omega),o2,Ae (by unfold InI;omega),Ae (by unfold InI;omega),Ae (by unfold InI;omega)]
        congr 3;omega
       rw [C1 step,ih (i+1) (m+arT a x) (by omega) (by omega),nxT,if_neg h0]
       cases Un a (m+arT a x) (t.drop (i+1)) with
       | none=>rfl
       | some e=>simp only [Option.map_some];congr 3;omega
     ·rw [if_neg hs]
      refine Bg ?_
      unfold B6
      dsimp only
      rw [if_pos (by omega),if_neg (by omega),Ae (by omega),Int.toNat_natCast,hx,hb]
      simp only [Option.bind_some]
      rw [decide_eq_true hs,if_pos rfl]
theorem Apf (hg:B0 a) {t:List Int} (hl:t.length≤1000) {i:Nat} (hi:i≤t.length):Gq a t i=some (endA a t i):=by
 unfold Gq endA
 have:=Ami hg hl (t.length-i) i 1 (by omega) (by omega)
 have e:A7 (B6 a t) (1,(i:Int))=_:=this
 rw [e]
 cases Un a 1 (t.drop i)<;>rfl
theorem Am3 (hg:B0 a) {t:List Int} (hl:t.length≤1000) : ∀(k i m:Nat),i+k=t.length→m+3*k≤100000 →
  ∃r,A7 (Bs a t) ((i:Int),((m+1:Nat):Int))=some r∧(match r with | .inl q=>q | .inr _=> -1)=(match Un a (m+1) (t.drop i) with | some e=>((i+e:Nat):Int) | none=> -1):=by
 have h4:=hg.2.2.1
 intro k
 induction k with
 | zero=>
   intro i m hi hm
   have ed:t.drop i=[]:=List.drop_eq_nil_of_le (by omega)
   rw [ed]
   refine ⟨.inr (),Bg ?_,rfl⟩
   unfold Bs
   dsimp only
   rw [if_neg (by omega)]
 | succ k ih=>
   intro i m hi hm
   have hlt:i<t.length:=by omega
   rw [F6 hlt]
   generalize hx:nth t i=x
   simp only [Un]
   by_cases h0:0≤x
   ·have nx:nxT a m x=m:=by unfold nxT;rw [if_pos h0]
    by_cases hs:x≥6
    ·rw [if_neg (fun hh:Sc a x=>by have:=hh.1;omega)]
     refine ⟨.inl (-1),Bg ?_,rfl⟩
     unfold Bs
     dsimp only
     rw [if_pos (by omega),Ae (by unfold InI;omega),Ae (by omega),Int.toNat_natCast,hx,if_neg (by omega),Ae (by omega),if_pos hs]
    ·rw [if_pos (show Sc a x from ⟨by omega,by omega⟩),nx]
     cases m with
     | zero=>
       refine ⟨.inl ((i+1:Nat):Int),Bg ?_,by cases t.drop (i+1)<;>rfl⟩
       unfold Bs
       dsimp only
       rw [if_pos (by omega),Ae (by unfold InI;omega),Ae (by omega),Int.toNat_natCast,hx,if_neg (by omega),Ae (by omega),if_neg hs,if_pos (by omega),Ae (by unfold InI;omega)]
       rfl
     | succ m=>
       obtain ⟨r,e1,e2⟩:=ih (i+1) m (by omega) (by omega)
       refine ⟨r,?_,?_⟩
       ·have step:Bs a t ((i:Int),((m+1+1:Nat):Int))=some (.inl (((i+1:Nat):Int),((m+1:Nat):Int))):=by
         unfold Bs
         dsimp only
         rw [if_pos (by omega),Ae (by unfold InI;omega),Ae (by omega),Int.toNat_natCast,hx,if_neg (by omega),Ae (by omega),if_neg hs,if_neg (by omega),Ae (by unfold InI;omega)]
         congr 3
         omega
        rw [C1 step];exact e1
       ·rw [e2]
        cases Un a (m+1) (t.drop (i+1)) with
        | none=>rfl
        | some e=>
          show ((i+1+e:Nat):Int)=((i+(e+1):Nat):Int)
          omega
   ·by_cases hs : -(a.Ops.length:Int)≤x
    ·have hsy:Sc a x:=⟨by omega,hs⟩
     obtain ⟨o1,o2,o3,_,_⟩:=hg.op (x:=x) (by omega) hs
     have nx:nxT a m x=m+arT a x:=by unfold nxT;rw [if_neg h0]
     have hin:E1 x (IntKind.i64.wrap (0-(a.Ops.length:Int))) (-1)=some true:=by
      rw [Ac2 (by omega),Zh]
      simp;omega
     rw [if_pos hsy,nx]
     by_cases hz:m+arT a x=0
     ·rw [hz]
      refine ⟨.inl ((i+1:Nat):Int),Bg ?_,by cases t.drop (i+1)<;>rfl⟩
      unfold Bs
      dsimp only
      rw [if_pos (by omega),Ae (by unfold InI;omega),Ae (by omega),Int.toNat_natCast,hx,if_pos (by omega),Ae (by omega),hin]
      simp only [Option.bind_some,if_true]
      rw [Ae (by omega),Ae (by unfold InI;omega),Ae (by omega),o2,Ae (by unfold InI;omega),if_pos (by omega),Ae (by unfold InI;omega)]
      rfl
     ·obtain ⟨m',hm'⟩ : ∃m',m+arT a x=m'+1:=⟨m+arT a x-1,by omega⟩
      rw [hm']
      obtain ⟨r,e1,e2⟩:=ih (i+1) m' (by omega) (by omega)
      refine ⟨r,?_,?_⟩
      ·have step:Bs a t ((i:Int),((m+1:Nat):Int))=some (.inl (((i+1:Nat):Int),((m'+1:Nat):Int))):=by
        unfold Bs
        dsimp only
        rw [if_pos (by omega),Ae (by unfold InI;omega),Ae (by omega),Int.toNat_natCast,hx,if_pos (by omega),Ae (by omega),hin]
        simp only [Option.bind_some,if_true]
        rw [Ae (by omega),Ae (by unfold InI;omega),Ae (by omega),o2,Ae (by unfold InI;omega),if_neg (by omega),Ae (by unfold InI;omega)]
        congr 3
        omega
       rw [C1 step];exact e1
      ·rw [e2]
       cases Un a (m'+1) (t.drop (i+1)) with
       | none=>rfl
       | some e=>
         show ((i+1+e:Nat):Int)=((i+(e+1):Nat):Int)
         omega
    ·rw [if_neg (fun hh:Sc a x=>hs hh.2)]
     have hin:E1 x (IntKind.i64.wrap (0-(a.Ops.length:Int))) (-1)=some false:=by
      rw [Ac2 (by omega),Zh]
      simp;omega
     refine ⟨.inl (-1),Bg ?_,rfl⟩
     unfold Bs
     dsimp only
     rw [if_pos (by omega),Ae (by unfold InI;omega),Ae (by omega),Int.toNat_natCast,hx,if_pos (by omega),Ae (by omega),hin]
     simp only [Option.bind_some,Bool.false_eq_true,if_false]
theorem Ain (hg:B0 a) {t:List Int} (hl:t.length≤1000) {i:Nat} (hi:i≤t.length):Ev a t i=some (endA a t i):=by
 unfold Ev endA
 obtain ⟨r,e1,e2⟩:=Am3 hg hl (t.length-i) i 0 (by omega) (by omega)
 have e:A7 (Bs a t) ((i:Int),1)=_:=e1
 rw [e]
 simp only [Nat.zero_add] at e2
 rw [←e2]
 cases r<;>rfl
def isT (a:SAlgebra) (t:List Int):Prop:=t.length≤60∧WF a 1 t
theorem Alp {t:List Int}:endA a t 0=(t.length:Int)↔WF a 1 t:=by
 unfold endA
 rw [List.drop_zero]
 constructor
 ·intro h
  cases he:Un a 1 t with
  | none=>rw [he] at h;simp only at h;omega
  | some k=>
    rw [he] at h
    simp only at h
    have:=(Ao1 he).2
    rwa [List.take_of_length_le (by omega)] at this
 ·intro h
  have:=Acl [] h
  rw [List.append_nil] at this
  rw [this];simp
theorem N2 (hg:B0 a) {t:List Int}:D8 a t=some (decide (isT a t)):=by
 unfold D8
 by_cases hl:t.length≤60
 ·have:=Apf hg (t:=t) (by omega) (i:=0) (by omega)
  have e:Gq a t 0=_:=this
  rw [if_pos (by omega),e]
  simp only [Option.bind_some]
  congr 1
  rw [Bool.eq_iff_iff,beq_iff_eq,Alp,decide_eq_true_eq]
  exact ⟨fun h=>⟨hl,h⟩,fun h=>h.2⟩
 ·rw [if_neg (by omega),decide_eq_false (fun h=>hl h.1)]
theorem P7 (hg:B0 a) {t:List Int}:E0 a t=some (decide (isT a t)):=by
 unfold E0
 by_cases h0:t.length>0
 ·rw [if_pos (by omega)]
  by_cases hl:t.length≤60
  ·have:=Ain hg (t:=t) (by omega) (i:=0) (by omega)
   have e:Ev a t 0=_:=this
   rw [if_pos (by omega),e]
   simp only [Option.bind_some]
   congr 1
   rw [Bool.eq_iff_iff,beq_iff_eq,Alp,decide_eq_true_eq]
   exact ⟨fun h=>⟨hl,h⟩,fun h=>h.2⟩
  ·rw [if_neg (by omega),decide_eq_false (fun h=>hl h.1)]
 ·rw [if_neg (by omega),decide_eq_false (fun h=>h0 h.2.pos)]
theorem Py (hs:N5 a) {t:List Int}:D5 a t=some (decide (B0 a∧isT a t)):=by
 unfold D5
 rw [Aay hs]
 simp only [Option.bind_some]
 by_cases hg:B0 a
 ·rw [decide_eq_true hg,if_pos rfl,N2 hg]
  simp only [Option.bind_some]
  congr 1
  rw [decide_eq_decide]
  exact ⟨fun h=>⟨hg,h⟩,fun h=>h.2⟩
 ·rw [decide_eq_false hg,if_neg (by simp),decide_eq_false (fun h=>hg h.1)]
theorem Jh (hs:N5 a) {t:List Int}:Cq a t=some (decide (B0 a∧isT a t)):=by
 unfold Cq
 rw [Ak6 hs]
 simp only [Option.bind_some]
 by_cases hg:B0 a
 ·rw [decide_eq_true hg,if_pos rfl,P7 hg]
  simp only [Option.bind_some]
  congr 1
  rw [decide_eq_decide]
  exact ⟨fun h=>⟨hg,h⟩,fun h=>h.2⟩
 ·rw [decide_eq_false hg,if_neg (by simp),decide_eq_false (fun h=>hg h.1)]
theorem Amz (hg:B0 a) {ts:List (List Int)} (hl:ts.length≤1000):Gx a ts=some (decide (∀r∈ts,isT a r)):=by
 unfold Gx
 have:=H6 (body:=C2 a ts) (fun i=>(i:Int)) ts.length (fun i=>¬isT a (nth ts i)) () () (fun i hi hb=>by
  unfold C2
  rw [if_pos (by omega),Ae (by omega),Int.toNat_natCast,N2 hg,decide_eq_true (Classical.not_not.1 hb)]
  simp only [Option.bind_some,if_true]
  rw [Ae (by unfold InI;omega)];rfl) (fun i hi hb=>by
  unfold C2
  rw [if_pos (by omega),Ae (by omega),Int.toNat_natCast,N2 hg,decide_eq_false hb]
  simp only [Option.bind_some]
  rw [if_neg (by simp)]) (by
  unfold C2
  rw [if_neg (by omega)]) 0 (by omega)
 refine (Kx this false true).trans (congrArg some (Q1 ?_))
 rw [Lz]
 constructor
 ·intro h x hx;obtain ⟨i,hi,rfl⟩:=Ow.1 hx;exact h i hi
 ·intro h i hi;exact h _ (Cf hi)
theorem Asp (hg:B0 a) {ts:List (List Int)} (hl:ts.length≤1000):Iu a ts=some (decide (∀r∈ts,isT a r)):=by
 unfold Iu
 have:=H6 (body:=D0 a ts) (fun i=>(i:Int)) ts.length (fun i=>¬isT a (nth ts i)) () () (fun i hi hb=>by
  unfold D0
  rw [if_pos (by omega),Ae (by omega),Int.toNat_natCast,P7 hg,decide_eq_true (Classical.not_not.1 hb)]
  simp only [Option.bind_some,if_true]
  rw [Ae (by unfold InI;omega)];rfl) (fun i hi hb=>by
  unfold D0
  rw [if_pos (by omega),Ae (by omega),Int.toNat_natCast,P7 hg,decide_eq_false hb]
  simp only [Option.bind_some]
  rw [if_neg (by simp)]) (by
  unfold D0
  rw [if_neg (by omega)]) 0 (by omega)
 refine (Kx this false true).trans (congrArg some (Q1 ?_))
 rw [Lz]
 constructor
 ·intro h x hx;obtain ⟨i,hi,rfl⟩:=Ow.1 hx;exact h i hi
 ·intro h i hi;exact h _ (Cf hi)
end
end Go.Proofs.YtbnoclklhcbidaaDoor.Ax
namespace Go.Proofs.YtbnoclklhcbidaaDoor.Ax
open Go Classical
section
variable {a:SAlgebra}
noncomputable def opV (a:SAlgebra) (x:Int) (args:List Int):Int:=nth (nth a.Ops (-1-x).toNat).Table (Anq a.Size.toNat args).toNat
noncomputable def Ass (a:SAlgebra) (vs t:List Int):Int:=Ak8 a (fun x=>nth vs x.toNat) (opV a) t
theorem Xt {t:List Int} (ht:isT a t) : ∀x∈t,x<((6:Nat):Int):=fun x hx=>(ht.2.sym x hx).1
def Sw (t:List Int) (ts:List (List Int)):Prop:=(∀x∈t,x<(ts.length:Int))∧(Kf ts t).length≤60
theorem T7 {ts:List (List Int)} {t:List Int} {i:Nat} (hi:i<t.length):Kf ts (t.take (i+1))=Kf ts (t.take i)++(if nth t i<0 then [nth t i] else nth ts (nth t i).toNat):=by
 rw [Jx hi,Aqf]
theorem Aot {ts:List (List Int)} {t:List Int} (i:Nat):(Kf ts (t.take i)).length≤(Kf ts t).length:=by
 have e:Kf ts t=Kf ts (t.take i)++Kf ts (t.drop i):=by
  have:t=t.take i++t.drop i:=(List.take_append_drop i t).symm
  conv=>lhs;rw [this]
  unfold Kf;rw [List.flatMap_append]
 rw [e];simp
theorem Aic {t:List Int} {ts:List (List Int)} (hl:t.length≤60) (ht : ∀r∈ts,r.length≤60):Fp t ts=some (if Sw t ts then (Kf ts t,true) else ([],false)):=by
 have hL:=Co
 unfold Fp
 obtain ⟨r,e,hr⟩:=F8 (body:=D9 t ts) (fun s => ∃i:Nat,s.1=(i:Int)∧i≤t.length∧s.2=Kf ts (t.take i)∧(∀x∈t.take i,x<(ts.length:Int))∧s.2.length≤60+i) (fun s=>t.length-s.1.toNat)
  (fun r=>match r with | .inl _=>¬Sw t ts | .inr q=>q=Kf ts t ∧ ∀x∈t,x<(ts.length:Int)) (fun s hs=>by
  obtain ⟨x6,q⟩:=s
  obtain ⟨i,g1,g2,g3,g4,g5⟩:=hs
  simp only at g1 g3 g5
  subst g1
  unfold D9
  dsimp only
  by_cases hlt:i<t.length
  ·have hst:=T7 (ts:=ts) hlt
   have hle:=Aot (ts:=ts) (t:=t) (i+1)
   have hmem:=Cf hlt
   rw [if_pos (by omega),Ae (by omega),Int.toNat_natCast]
   have hall:nth t i<(ts.length:Int) → ∀x∈t.take (i+1),x<(ts.length:Int):=fun hx y hy=>by
    rw [Jx hlt] at hy
    rcases List.mem_append.1 hy with hy | hy
    ·exact g4 y hy
    ·rw [List.mem_singleton.1 hy];exact hx
   by_cases h0:nth t i<0
   ·left
    rw [if_pos h0] at hst
    rw [if_pos h0,Ae (by simp;omega),Ae (by unfold InI;omega)]
    exact ⟨_,rfl,⟨i+1,rfl,hlt,by simp only;rw [hst,g3],hall (by omega),by simp;omega⟩,by simp only;omega⟩
   ·rw [if_neg h0] at hst
    rw [if_neg h0]
    by_cases hx:nth t i≥(ts.length:Int)
    ·right
     rw [if_pos hx]
     exact ⟨_,rfl,fun hok=>by have:=hok.1 _ hmem;omega⟩
    ·have hrl:=ht _ (Cf (show (nth t i).toNat<ts.length by omega))
     rw [if_neg hx,Ae (by omega),Ae (by omega)]
     by_cases h60:(((q++nth ts (nth t i).toNat).length:Nat):Int)>60
     ·right
      rw [if_pos h60]
      refine ⟨_,rfl,fun hok=> ?_⟩
      have:=hok.2
      rw [hst,←g3] at hle
      omega
     ·left
      rw [if_neg h60,Ae (by unfold InI;omega)]
      exact ⟨_,rfl,⟨i+1,rfl,hlt,by simp only;rw [hst,g3],hall (by omega),by simp only;omega⟩,by simp only;omega⟩
  ·right
   have ei:i=t.length:=by omega
   subst ei
   rw [if_neg (by omega)]
   rw [List.take_length] at g3 g4
   exact ⟨_,rfl,g3,g4⟩) (s:=((0:Int),A4 Int)) ⟨0,rfl,Nat.zero_le _,rfl,by simp,by simp [A4]⟩
 rw [e]
 cases r with
 | inl u=>
   rw [if_neg hr];rfl
 | inr q=>
   obtain ⟨rfl,h2⟩:=hr
   simp only [Option.bind_some]
   by_cases h60:(((Kf ts t).length:Nat):Int)>60
   ·rw [if_pos h60,if_neg (fun hok:Sw t ts=>by have:=hok.2;omega)]
   ·rw [if_neg h60,if_pos (show Sw t ts from ⟨h2,by omega⟩)]
theorem Adb {t:List Int} {ts:List (List Int)} (hl:t.length≤60) (ht : ∀r∈ts,r.length≤60):En t ts=some (if Sw t ts then (Kf ts t,true) else ([],false)):=by
 have hL:=Co
 unfold En
 obtain ⟨r,e,hr⟩:=F8 (body:=Dg t ts) (fun s => ∃i:Nat,s.1=(i:Int)∧i≤t.length∧s.2=Kf ts (t.take i)∧(∀x∈t.take i,x<(ts.length:Int))∧s.2.length≤60) (fun s=>t.length-s.1.toNat)
  (fun r=>match r with | .inl _=>¬Sw t ts | .inr q=>q=Kf ts t∧Sw t ts) (fun s hs=>by
  obtain ⟨x6,q⟩:=s
  obtain ⟨i,g1,g2,g3,g4,g5⟩:=hs
  simp only at g1 g3 g5
  subst g1
  unfold Dg
  dsimp only
  by_cases hlt:i<t.length
  ·have hst:=T7 (ts:=ts) hlt
   have hle:=Aot (ts:=ts) (t:=t) (i+1)
   have hmem:=Cf hlt
   rw [if_pos (by omega),Ae (by omega),Int.toNat_natCast]
   have hall:nth t i<(ts.length:Int) → ∀x∈t.take (i+1),x<(ts.length:Int):=fun hx y hy=>by
    rw [Jx hlt] at hy
    rcases List.mem_append.1 hy with hy | hy
    ·exact g4 y hy
    ·rw [List.mem_singleton.1 hy];exact hx
   by_cases hx:nth t i≥(ts.length:Int)
   ·right
    rw [if_pos hx]
    exact ⟨_,rfl,fun hok=>by have:=hok.1 _ hmem;omega⟩
   ·rw [if_neg hx,Ae (by omega)]
    have fin : ∀y:List Int,(if nth t i<0 then [nth t i] else nth ts (nth t i).toNat)=y→(((q++y).length:Nat):Int)>60→¬Sw t ts:=fun y hy h60 hok=>by
     have:=hok.2
     rw [hst,hy,←g3] at hle
     omega
    by_cases h0:nth t i<0
    ·rw [if_pos h0,Ae (by omega),Ae (by simp;omega)]
     by_cases h60:(((q++[nth t i]).length:Nat):Int)>60
     ·right
      rw [if_pos h60]
      exact ⟨_,rfl,fin _ (if_pos h0) h60⟩
     ·left
      rw [if_neg h60,Ae (by unfold InI;omega)]
      rw [if_pos h0] at hst
      exact ⟨_,rfl,⟨i+1,rfl,hlt,by simp only;rw [hst,g3],hall (by omega),by simp only;omega⟩,by simp only;omega⟩
    ·have hrl:=ht _ (Cf (show (nth t i).toNat<ts.length by omega))
     rw [if_neg h0,Ae (by omega),Ae (by omega),Ae (by omega)]
     by_cases h60:(((q++nth ts (nth t i).toNat).length:Nat):Int)>60
     ·right
      rw [if_pos h60]
      exact ⟨_,rfl,fin _ (if_neg h0) h60⟩
     ·left
      rw [if_neg h60,Ae (by unfold InI;omega)]
      rw [if_neg h0] at hst
      exact ⟨_,rfl,⟨i+1,rfl,hlt,by simp only;rw [hst,g3],hall (by omega),by simp only;omega⟩,by simp only;omega⟩
  ·right
   have ei:i=t.length:=by omega
   subst ei
   rw [if_neg (by omega)]
   rw [List.take_length] at g3 g4
   exact ⟨_,rfl,g3,g4,by rw [←g3];exact g5⟩) (s:=((0:Int),A4 Int)) ⟨0,rfl,Nat.zero_le _,rfl,by simp,by simp [A4]⟩
 rw [e]
 cases r with
 | inl u=>rw [if_neg hr];rfl
 | inr q=>
   obtain ⟨rfl,h2⟩:=hr
   rw [if_pos h2];rfl
noncomputable def Amv (a:SAlgebra) (t:List Int) (ts:List (List Int)):List Int×Bool:=if B0 a∧isT a t∧ts.length≤6∧(∀r∈ts,isT a r)∧Sw t ts then (Kf ts t,true) else ([],false)
theorem Rp (hsm:N5 a) {t:List Int} {ts:List (List Int)} (hl:ts.length≤1000):Ek a t ts=some (Amv a t ts)∧El a t ts=some (Amv a t ts):=by
 have no:¬(B0 a∧isT a t∧ts.length≤6∧(∀r∈ts,isT a r)∧Sw t ts)→Amv a t ts=([],false):=fun h=>if_neg h
 unfold Ek El
 rw [Py hsm,Jh hsm]
 simp only [Option.bind_some]
 by_cases h1:B0 a∧isT a t
 ·rw [decide_eq_true h1,if_pos rfl,if_pos rfl]
  by_cases h2:ts.length≤6
  ·have h6:¬((ts.length:Int)>6):=by omega
   rw [if_neg h6,if_neg h6,Amz h1.1 hl,Asp h1.1 hl]
   simp only [Option.bind_some]
   by_cases h3 : ∀r∈ts,isT a r
   ·rw [decide_eq_true h3,if_pos rfl,if_pos rfl,Aic h1.2.1 (fun r hr=>(h3 r hr).1),Adb h1.2.1 (fun r hr=>(h3 r hr).1)]
    simp only [Option.bind_some]
    by_cases h4:Sw t ts
    ·have er:Amv a t ts=(Kf ts t,true):=if_pos ⟨h1.1,h1.2,h2,h3,h4⟩
     rw [if_pos h4,er];exact ⟨rfl,rfl⟩
    ·rw [if_neg h4,no fun hh=>h4 hh.2.2.2.2];exact ⟨rfl,rfl⟩
   ·rw [decide_eq_false h3,no fun hh=>h3 hh.2.2.2.1];exact ⟨rfl,rfl⟩
  ·have h6:(ts.length:Int)>6:=by omega
   rw [if_pos h6,if_pos h6,no fun hh=>h2 hh.2.2.1];exact ⟨rfl,rfl⟩
 ·rw [decide_eq_false h1,no fun hh=>h1 ⟨hh.1,hh.2.1⟩];exact ⟨rfl,rfl⟩
end
end Go.Proofs.YtbnoclklhcbidaaDoor.Ax
namespace Go.Proofs.YtbnoclklhcbidaaDoor.Ax
open Go Classical
theorem Asz {xs:List Int} (h:xs.length≤LIM):J9 xs=some xs:=by
 unfold J9
 rw [Ae (by show 0+xs.length≤_;omega)];rfl
theorem Asx {xs:List Int} (h:xs.length≤LIM):H3 xs=some xs:=by
 unfold H3
 rw [Ae (by show 0+xs.length≤_;omega)];rfl
section
variable {a:SAlgebra}
structure Place (a:SAlgebra) (t:List Int) (i:Nat) (p q:List Int) (k:Nat):Prop where
 eq:t.drop i=p++q
 one:WF a 1 p
 rest:WF a k q
 lt:i<t.length
 all:WF a (k+1) (p++q)
theorem Asa {t:List Int} (ht:WF a 1 t) {i:Nat} (hi:i<t.length) : ∃p q k,Place a t i p q k:=by
 obtain ⟨k,hk⟩:=ht.suffix i
 cases k with
 | zero=>
   have:=hk.zero
   have:=congrArg List.length this
   simp at this
   omega
 | succ k=>
   rw [Nat.add_comm] at hk
   obtain ⟨p,q,e,h1,h2⟩:=WF.split 1 hk
   exact ⟨p,q,k,e,h1,h2,hi,by rw [←e,Nat.add_comm];exact hk⟩
theorem Place.len {t p q:List Int} {i k:Nat} (h:Place a t i p q k):i+(p.length+q.length)=t.length∧0<p.length:=by
 have:=congrArg List.length h.eq
 have h2:=h.lt
 simp at this
 exact ⟨by omega,h.one.pos⟩
theorem Place.whole {t p q:List Int} {i k:Nat} (h:Place a t i p q k):t=t.take i++(p++q):=by rw [←h.eq,List.take_append_drop]
theorem Place.endA {t p q:List Int} {i k:Nat} (h:Place a t i p q k):endA a t i=((i+p.length:Nat):Int):=by
 unfold Ax.endA
 rw [h.eq,Acl q h.one]
theorem Place.part {t p q:List Int} {i k:Nat} (h:Place a t i p q k):List.take ((i+p.length)-i) (List.drop i t)=p∧List.drop (i+p.length) t=q:=by
 refine ⟨?_,?_⟩
 ·rw [h.eq,Nat.add_sub_cancel_left];simp
 ·rw [←List.drop_drop,h.eq];simp
theorem Place.put {t p q by':List Int} {i k:Nat} (ht:WF a 1 t) (h:Place a t i p q k) (hb:WF a 1 by'):WF a 1 (t.take i++(by'++q)):=by
 have e:=h.whole
 rw [e] at ht
 refine WF.swap ht h.all ?_
 rw [Nat.add_comm]
 exact hb.append h.rest
theorem Place.value {t p q by' vs:List Int} {i k:Nat} (h:Place a t i p q k) (hb:WF a 1 by') (hv:Ass a vs p=Ass a vs by'):Ass a vs t=Ass a vs (t.take i++(by'++q)):=by
 conv=>lhs;rw [h.whole]
 unfold Ass Ak8 at hv ⊢
 rw [H4,H4,H4 (t.take i),H4 by' q,Zt h.one,Zt hb]
 unfold Ak8
 rw [hv]
theorem Afb {α:Type} {f:Nat→Option α} (h : ∀n,LeO (f n) (f (n+1))):upO f:=by
 intro n m v hnm e
 obtain ⟨k,rfl⟩ : ∃k,m=n+k:=⟨m-n,by omega⟩
 clear hnm
 induction k with
 | zero=>exact e
 | succ k ih=>exact h (n+k) v ih
theorem Ze {t p q:List Int} {i:Nat} (h:t.drop i=p++q):t.drop (i+p.length)=q:=by
 rw [←List.drop_drop,h];simp
theorem Aqm (hg:B0 a) {x:Int} {p':List Int} {m:Nat} (h:WF a m p') (hl:p'.length≤59) : ∃ps,Hs a (x::p')=some ps∧ps.flatten=p'∧(∀r∈ps,WF a 1 r)∧ps.length≤60:=by
 have hL:=Co
 unfold Hs
 obtain ⟨ps,e,h1,h2,h3⟩:=F8 (body:=Fl a (x::p')) (fun s => ∃(j k:Nat) (pr:List Int),s.1=(j:Int)∧WF a k pr∧(x::p').drop j=pr∧j+pr.length=(x::p').length∧s.2.flatten++pr=p'∧(∀r∈s.2,WF a 1 r)∧s.2.length≤j)
  (fun s=>60-s.1.toNat) (fun ps=>ps.flatten=p'∧(∀r∈ps,WF a 1 r)∧ps.length≤60) (fun s hs=>by
  obtain ⟨x6,acc⟩:=s
  obtain ⟨j,k,pr,g1,g2,g3,g4,g5,g6,g7⟩:=hs
  simp only at g1 g5 g6 g7
  subst g1
  simp only [List.length_cons] at g4
  unfold Fl
  dsimp only
  by_cases hlt:j<(x::p').length
  ·left
   simp only [List.length_cons] at hlt
   cases k with
   | zero=>
     have:=g2.zero
     subst this
     simp at g4;omega
   | succ k=>
     rw [Nat.add_comm] at g2
     obtain ⟨p1,p2,rfl,k1,k2⟩:=WF.split 1 g2
     have hpos:=k1.pos
     rw [List.length_append] at g4
     have hend:endA a (x::p') j=((j+p1.length:Nat):Int):=by
      unfold endA
      rw [g3,Acl p2 k1]
     have e4:List.take (((j+p1.length:Nat):Int).toNat-((j:Nat):Int).toNat) (List.drop ((j:Nat):Int).toNat (x::p'))=p1:=by
      rw [Int.toNat_natCast,Int.toNat_natCast,g3,Nat.add_sub_cancel_left];simp
     rw [if_pos (by simp only [List.length_cons];omega),Ain hg (by simp;omega) (by simp;omega),hend]
     simp only [Option.bind_some]
     rw [Ae (by simp only [List.length_cons];omega),e4,Asx (by omega)]
     simp only [Option.bind_some]
     rw [Ae (by simp;omega)]
     refine ⟨_,rfl,⟨j+p1.length,k,p2,rfl,k2,Ze g3,by simp only [List.length_cons];omega,by simp only [List.flatten_append,List.flatten_cons,List.flatten_nil,List.append_nil,List.append_assoc];exact g5,fun r hr=> ?_,by simp;omega⟩,by simp only;omega⟩
     rcases List.mem_append.1 hr with hr | hr
     ·exact g6 r hr
     ·rw [List.mem_singleton.1 hr];exact k1
  ·right
   simp only [List.length_cons] at hlt
   have hn:pr=[]:=List.length_eq_zero_iff.1 (by omega)
   subst hn
   rw [if_neg (by simp only [List.length_cons];omega)]
   exact ⟨_,rfl,by simpa using g5,g6,by simp at g4;omega⟩) (s:=((1:Int),A4 (List Int))) ⟨1,m,p',rfl,h,rfl,by simp;omega,by simp [A4],by simp [A4],by simp [A4]⟩
 rw [e]
 exact ⟨ps,rfl,h1,h2,h3⟩
end
end Go.Proofs.YtbnoclklhcbidaaDoor.Ax
namespace Go.Proofs.YtbnoclklhcbidaaDoor.Ax
open Go Classical
theorem Ajy {s1 s2:Sl1Cur→SAlgebra→Int→Int→Option (List Int×Sl1Cur)} (h : ∀c b d v,LeO (s1 c b d v) (s2 c b d v)) (c:Sl1Cur) (b:SAlgebra) (d v:Int):LeO (B4 s1 c b d v) (B4 s2 c b d v):=by
 unfold B4
 refine LeO.bind (LeO.refl _) fun q=>LeO.bind (LeO.refl _) fun t=> ?_
 cases t with
 | inl p=>exact LeO.refl _
 | inr e=>
   refine LeO.bind (LeO.refl _) fun r=>LeO.ask (LeO.bind (LeO.loop (fun s=> ?_) _) fun _=>LeO.refl _)
   obtain ⟨x,y,z⟩:=s
   unfold Cv
   dsimp only
   exact LeO.ask (LeO.ite (LeO.ask (LeO.bind (h _ _ _ _) fun _=>LeO.refl _)) (LeO.refl _))
theorem Apv (c:Sl1Cur) (b:SAlgebra) (d v:Int):upO fun n=>A5 n c b d v:=by
 have step : ∀n c b d v,LeO (A5 n c b d v) (A5 (n+1) c b d v):=by
  intro n
  induction n with
  | zero=>intro c b d v w e;cases e
  | succ n ih=>intro c b d v;exact Ajy ih c b d v
 exact Afb fun n=>step n c b d v
def bB:Nat→Nat
 | 0=>10
 | d+1=>10+3*bB d
def bL:Nat→Nat
 | 0=>1
 | d+1=>1+3*bL d
theorem Avm {d:Nat} (h:d≤3):bB d≤400∧10≤bB d∧bL d≤40∧1≤bL d:=by
 have:d=0∨d=1∨d=2∨d=3:=by omega
 rcases this with rfl | rfl | rfl | rfl<;>decide
section
variable {a:SAlgebra}
theorem Aj4 (hg:B0 a) : ∀(d:Nat),d≤3 → ∀ {c:Sl1Cur} {k:Nat},Cur k c→k+1000*d≤500000000 → ∀ {v:Int},0≤v →
  ∃p:List Int×Sl1Cur,A5 (d+1) c a (d:Int) v=some p∧(Cur (k+bB d) p.2∧1≤p.1.length∧p.1.length≤bL d):=by
 have hL:=Co
 have h4:=hg.2.2.1
 intro d
 induction d using Nat.strongRecOn with
 | ind d ih=>
   intro hd c k h hk v hv
   obtain ⟨b1,b2,b3,b4⟩:=Avm hd
   show ∃p,B4 (A5 d) c a (d:Int) v=some p∧_
   unfold B4
   refine Re (Q:=fun q:List Int=>q.length≤4) ?_ fun q hq=> ?_
   ·exact F8 (body:=Di c a (d:Int) v) (fun s => ∃j:Nat,s.1=(j:Int)∧j≤a.Ops.length∧s.2.length≤j) (fun s=>a.Ops.length-s.1.toNat) (fun q=>q.length≤4) (fun s hs=>by
     obtain ⟨x10,x9⟩:=s
     obtain ⟨j,g1,g2,g3⟩:=hs
     simp only at g1 g3
     subst g1
     unfold Di
     dsimp only
     by_cases hlt:j<a.Ops.length
     ·left
      rw [if_pos (by omega),Ae (by omega)]
      by_cases h0:(nth a.Ops ((j:Int)).toNat).Arity=0
      ·rw [if_pos h0,Ae (by unfold InI;omega),Ae (by simp;omega),Ae (by unfold InI;omega)]
       exact ⟨_,rfl,⟨j+1,rfl,hlt,by simp;omega⟩,by simp only;omega⟩
      ·rw [if_neg h0,Ae (by unfold InI;omega)]
       exact ⟨_,rfl,⟨j+1,rfl,hlt,by simp only;omega⟩,by simp only;omega⟩
     ·right
      rw [if_neg (by omega)]
      exact ⟨_,rfl,by omega⟩) (s:=((0:Int),A4 Int)) ⟨0,rfl,Nat.zero_le _,by simp [A4]⟩
   refine Re (Q:=fun t:(List Int×Sl1Cur) ⊕ Sl1Cur=>match t with
    | .inl p=>Cur (k+8) p.2∧p.1.length=1
    | .inr e=>Cur (k+8) e∧d≠0∧a.Ops.length≠0) ?_ ?_
   ·refine Re (Q:=fun p:Bool×Sl1Cur=>Cur (k+2) p.2∧(p.1=false→d≠0∧a.Ops.length≠0)) ?_ ?_
    ·by_cases h0:(d:Int)=0
     ·rw [if_pos h0]
      exact ⟨_,rfl,h.mono (by omega),fun hh=>by cases hh⟩
     ·rw [if_neg h0]
      by_cases h1:(a.Ops.length:Int)=0
      ·rw [if_pos h1]
       exact ⟨_,rfl,h.mono (by omega),fun hh=>by cases hh⟩
      ·rw [if_neg h1]
       obtain ⟨b,e,e1,he⟩:=Tj h (by omega) 4
       rw [e1]
       exact ⟨_,rfl,he,fun _=>⟨by omega,by omega⟩⟩
    ·rintro ⟨b,e⟩ ⟨he,hf⟩
     dsimp only at he hf ⊢
     by_cases hb:b=true
     ·rw [if_pos hb]
      refine Re (Q:=fun p:Bool×Sl1Cur=>Cur (k+4) p.2) ?_ ?_
      ·by_cases h0:v=0
       ·rw [if_pos h0];exact ⟨_,rfl,he.mono (by omega)⟩
       ·rw [if_neg h0]
        by_cases h1:(q.length:Int)>0
        ·rw [if_pos h1]
         obtain ⟨b',e',e1,he'⟩:=Tj he (by omega) 4
         rw [e1]
         exact ⟨_,rfl,he'⟩
        ·rw [if_neg h1];exact ⟨_,rfl,he.mono (by omega)⟩
      ·rintro ⟨b',e'⟩ he'
       dsimp only at he' ⊢
       by_cases hb':b'=true
       ·rw [if_pos hb']
        by_cases h0:(q.length:Int)=0
        ·rw [if_pos h0];exact ⟨_,rfl,he'.mono (by omega),rfl⟩
        ·rw [if_neg h0]
         obtain ⟨r,e2,e1,he2,_⟩:=Fv he' (by omega) q (by omega)
         rw [e1]
         exact ⟨_,rfl,he2.mono (by omega),rfl⟩
       ·rw [if_neg hb']
        obtain ⟨r,e2,e1,he2,_⟩:=D4 he' (by omega) v
        rw [e1]
        exact ⟨_,rfl,he2.mono (by omega),rfl⟩
     ·rw [if_neg hb]
      obtain ⟨k1,k2⟩:=hf (by simpa using hb)
      exact ⟨_,rfl,he.mono (by omega),k1,k2⟩
   ·rintro (⟨r,e⟩ | e) ht
    ·obtain ⟨k1,k2⟩:=ht
     dsimp only at k1 k2 ⊢
     exact ⟨_,rfl,k1.mono (by omega),by simp only;omega,by simp only;omega⟩
    ·obtain ⟨k1,k2,k3⟩:=ht
     dsimp only at k1 ⊢
     obtain ⟨d',rfl⟩ : ∃d',d=d'+1:=⟨d-1,by omega⟩
     obtain ⟨r,e2,e1,he2,r0,r1⟩:=D4 k1 (by omega) (a.Ops.length:Int)
     rw [e1]
     simp only [Option.bind_some]
     have hri:r.toNat<a.Ops.length:=by omega
     obtain ⟨o1,o2,_,_⟩:=hg.2.2.2 _ (Cf hri)
     rw [Ae (by unfold InI;omega)]
     have eB:bB (d'+1)=10+3*bB d':=rfl
     have eL:bL (d'+1)=1+3*bL d':=rfl
     refine Re (Q:=fun p:List Int×Sl1Cur=>Cur (k+bB (d'+1)) p.2∧1≤p.1.length∧p.1.length≤bL (d'+1)) ?_ ?_
     ·exact F8 (body:=Cv (A5 (d'+1)) a ((d'+1:Nat):Int) v r) (fun s => ∃j:Nat,s.1=(j:Int)∧j≤3∧1≤s.2.1.length∧s.2.1.length≤1+j*bL d'∧Cur (k+10+j*bB d') s.2.2) (fun s=>3-s.1.toNat)
       (fun p=>Cur (k+bB (d'+1)) p.2∧1≤p.1.length∧p.1.length≤bL (d'+1)) (fun s hs=>by
       obtain ⟨x13,x12,x96⟩:=s
       obtain ⟨j,g1,g2,g3,g4,g5⟩:=hs
       simp only at g1 g3 g4 g5
       subst g1
       have hj1:j*bL d'≤3*bL d':=Nat.mul_le_mul_right _ g2
       have hj2:j*bB d'≤3*bB d':=Nat.mul_le_mul_right _ g2
       unfold Cv
       dsimp only
       rw [Ae (by omega)]
       by_cases hlt:(j:Int)<(nth a.Ops r.toNat).Arity
       ·left
        obtain ⟨⟨r32,u33⟩,e3,p1,p2,p3⟩:=ih d' (by omega) (by omega) g5 (by omega) hv
        have e4:(((d'+1:Nat):Int)-1)=(d':Int):=by omega
        rw [if_pos hlt,Ae (by unfold InI;omega),e4,e3]
        simp only [Option.bind_some]
        simp only at p1 p2 p3
        rw [Ae (by omega),Ae (by unfold InI;omega)]
        refine ⟨_,rfl,⟨j+1,rfl,by omega,by simp;omega,?_,?_⟩,by simp only;omega⟩
        ·rw [Nat.succ_mul];simp;omega
        ·rw [Nat.succ_mul];exact p1.mono (by omega)
       ·right
        rw [if_neg hlt]
        exact ⟨_,rfl,g5.mono (by omega),g3,by simp only;omega⟩) (s:=((0:Int),[-1-r],e2)) ⟨0,rfl,by omega,by simp,by simp,he2.mono (by omega)⟩
     ·rintro ⟨x,y⟩ hxy
      exact ⟨_,rfl,hxy⟩
end
theorem Je {c:Sl1Cur} {k:Nat} (h:Cur k c) (hk:k≤400000000) {a:SAlgebra} (ha:Lu a) : ∃xs d,Bz c a=some (xs,d)∧Cur (k+600) d∧xs.length≤41:=by
 have hL:=Co
 unfold Bz
 rw [Ak6 (Hg ha)]
 simp only [Option.bind_some]
 by_cases hg:B0 a
 ·have h4:=hg.2.2.1
  rw [decide_eq_true hg,if_pos rfl]
  obtain ⟨r3,u4,e1,hd1,a1,a2⟩:=D4 h (by omega) 3
  rw [e1]
  simp only [Option.bind_some]
  rw [Ae (by unfold InI;omega)]
  obtain ⟨r6,u7,e2,hd2,hm⟩:=Fv hd1 (by omega) [1,2,3,3,6] (by simp)
  rw [e2]
  simp only [Option.bind_some]
  obtain ⟨dd,hdd,hdd3⟩ : ∃dd:Nat,1+r3=(dd:Int)∧dd≤3:=⟨(1+r3).toNat,by omega,by omega⟩
  obtain ⟨⟨r8,u9⟩,e3,k1,k2,k3⟩:=Aj4 hg dd hdd3 hd2 (by omega) (v:=r6) (by simp at hm;omega)
  obtain ⟨b1,b2,b3,b4⟩:=Avm hdd3
  simp only at k1 k2 k3
  have e4:(Li fun n=>A5 n u7 a (1+r3) r6)=some (r8,u9):=by
   rw [hdd];exact Ah5 (Apv u7 a _ r6) e3
  rw [e4]
  simp only [Option.bind_some]
  obtain ⟨r39,u40,e5,hd5,_⟩:=D4 k1 (by omega) 32
  rw [e5]
  simp only [Option.bind_some]
  by_cases c0:r39=0
  ·rw [if_pos c0,Ae (by simp;omega)]
   exact ⟨_,_,rfl,hd5.mono (by omega),by simp;omega⟩
  ·rw [if_neg c0]
   by_cases c1:r39=1
   ·rw [if_pos c1]
    obtain ⟨r43,u44,e6,hd6,q1,q2⟩:=D4 hd5 (by omega) (r8.length:Int)
    rw [e6]
    simp only [Option.bind_some]
    rw [Ae (by unfold InI;omega)]
    obtain ⟨r46,u47,e7,hd7,_⟩:=Fv hd6 (by omega) [-1-(a.Ops.length:Int),6, -9223372036854775808,9223372036854775807] (by simp)
    rw [e7]
    simp only [Option.bind_some]
    rw [Ae (by omega)]
    exact ⟨_,_,rfl,hd7.mono (by omega),by simp;omega⟩
   ·rw [if_neg c1]
    by_cases c2:r39=2
    ·rw [if_pos c2,Ae (by omega)]
     exact ⟨_,_,rfl,hd5.mono (by omega),by simp;omega⟩
    ·rw [if_neg c2]
     exact ⟨_,_,rfl,hd5.mono (by omega),by omega⟩
 ·rw [decide_eq_false hg,if_neg (by simp)]
  exact ⟨_,_,rfl,h.mono (by omega),by simp⟩
theorem Alv {c:Sl1Cur} {k:Nat} (h:Cur k c) (hk:k≤300000000) {a:SAlgebra} (ha:Lu a) : ∃ts d,Em c a=some (ts,d)∧Cur (k+5000) d∧ts.length≤7 ∧ ∀r∈ts,r.length≤41:=by
 have hL:=Co
 unfold Em
 obtain ⟨m,d2,e2,hd2,hm⟩:=Fv h (by omega) [3,6,6,2,1,0,7] (by simp)
 rw [e2]
 simp only [Option.bind_some]
 obtain ⟨t,rfl,ht⟩ : ∃t:Nat,m=(t:Int)∧t≤7:=by
  refine ⟨m.toNat,?_,?_⟩ <;> · simp at hm;omega
 obtain ⟨⟨ts,d3⟩,e3,h3,h4,h5⟩:=F8 (body:=Dn a) (fun s => ∃j:Nat,s.1=(j:Int)∧s.2.1.length+j≤7∧(∀r∈s.2.1,r.length≤41)∧Cur (k+4+600*s.2.1.length) s.2.2) (fun s=>s.1.toNat) (fun u=>u.1.length≤7∧(∀r∈u.1,r.length≤41)∧Cur (k+5000) u.2) (fun s hs=>by
  obtain ⟨x6,x5,x22⟩:=s
  obtain ⟨j,g1,g2,g3,g4⟩:=hs
  simp only at g1 g2 g3 g4
  subst g1
  unfold Dn
  dsimp only
  by_cases hj:(j:Int)>0
  ·left
   rw [if_pos hj]
   obtain ⟨r4,u5,e8,h8,h9⟩:=Je g4 (by omega) ha
   rw [e8]
   simp only [Option.bind_some]
   rw [Ae (by simp;omega),Ae (by unfold InI;omega)]
   refine ⟨_,rfl,⟨j-1,by simp only;omega,by simp;omega,fun r hr=> ?_,h8.mono (by simp;omega)⟩,by simp only;omega⟩
   rcases List.mem_append.1 hr with hr | hr
   ·exact g3 r hr
   ·rw [List.mem_singleton.1 hr];exact h9
  ·right
   rw [if_neg hj]
   exact ⟨_,rfl,by simp only;omega,g3,g4.mono (by omega)⟩) (s:=((t:Int),A4 (List Int),d2)) ⟨t,rfl,by simp [A4];omega,by simp [A4],by simpa [A4] using hd2.mono (by omega)⟩
 rw [e3]
 exact ⟨_,_,rfl,h5,h3,h4⟩
theorem Tx {xs:List Int} (h:xs.length≤LIM):D7 xs xs=some true:=by
 have hL:=Co
 unfold D7
 rw [if_neg (by simp)]
 have:=Np (body:=Ei xs xs) (fun i=>(i:Int)) xs.length (.inr ()) (fun i hi=>by
  unfold Ei
  rw [if_pos (by omega)]
  repeat rw [Ae (by first | omega | (unfold InI;omega))]
  rw [if_neg (by simp)]
  repeat rw [Ae (by first | omega | (unfold InI;omega))]
  rfl) (by
  unfold Ei
  rw [if_neg (by omega)])
 have h0:A7 (Ei xs xs) 0=some (.inr ()):=this
 rw [h0];rfl
end Go.Proofs.YtbnoclklhcbidaaDoor.Ax
namespace Go.Proofs.YtbnoclklhcbidaaDoor.Ax
open Go Classical
theorem Ahi {α:Type} {f:Nat→Option α} {v:α} {n:Nat} (h:f n=some v) (hu : ∀m w,f m=some w→w=v):Li f=some v:=by
 unfold Li
 rw [dif_pos ⟨v,n,h⟩]
 obtain ⟨m,hm⟩:=Classical.choose_spec (⟨v,n,h⟩ : ∃v n,f n=some v)
 rw [hu m _ hm]
theorem Ajz : ∀i:Nat,i<10→(ByteArray.mk #[(48:UInt8),49,50,51,52,53,54,55,56,57]).extract i (i+1)=⟨#[48+UInt8.ofNat i]⟩:=by decide +kernel
noncomputable def Aeb (x:Int):ByteArray:=⟨(Zd x.toNat).toArray⟩
theorem Px (x:Int):(Aeb x).size≤2:=by
 show ((Zd x.toNat).toArray).size≤2
 unfold Zd
 split<;>simp
theorem Z4 {x:Int} (h0:0≤x) (h1:x<10) (m:Nat):Dm (m+1) x=some (Aeb x):=by
 show Dl _ x=_
 unfold Dl
 rw [if_neg (by omega),if_pos h1,Ae (by unfold InI;omega),Ae (by
  refine ⟨h0,by omega,?_⟩
  show x+1≤((10:Nat):Int)
  omega)]
 obtain ⟨i,rfl⟩ : ∃i:Nat,x=i:=⟨x.toNat,by omega⟩
 rw [show ((i:Int)+1).toNat=i+1 by omega,Int.toNat_natCast,Ajz i (by omega)]
 unfold Aeb Zd
 rw [Int.toNat_natCast,if_pos (by omega)]
theorem Agx {x:Int} (h0:10≤x) (h1:x<100) (m:Nat):Dm (m+2) x=some (Aeb x):=by
 show Dl (Dm (m+1)) x=_
 unfold Dl
 obtain ⟨i,rfl⟩ : ∃i:Nat,x=i:=⟨x.toNat,by omega⟩
 have e1:(i:Int).tdiv 10=((i/10:Nat):Int):=rfl
 have e2:(i:Int).tmod 10=((i%10:Nat):Int):=rfl
 rw [if_neg (by omega),if_neg (by omega),e1,e2,Ae ⟨by omega,by unfold InI;omega⟩,Z4 (by omega) (by omega)]
 simp only [Option.bind_some]
 have hn:=Px ((i/10:Nat):Int)
 rw [Ae (by unfold InI;omega),Ae (by
  refine ⟨by omega,by omega,?_⟩
  show _≤((10:Nat):Int)
  omega)]
 rw [show (((i%10:Nat):Int)+1).toNat=i%10+1 by omega,Int.toNat_natCast,Ajz _ (by omega),Ae (by
  have e:(ByteArray.mk #[48+UInt8.ofNat (i%10)]).size=1:=rfl
  rw [e];omega)]
 unfold Aeb Zd
 rw [Int.toNat_natCast,Int.toNat_natCast,if_pos (by omega),if_neg (by omega)]
 rfl
theorem Aqb {x:Int} (h0:10≤x):Dm 1 x=none:=by
 show Dl (Dm 0) x=_
 unfold Dl
 rw [if_neg (by omega),if_neg (by omega)]
 by_cases h:(10:Int)≠0∧InI (x.tdiv 10)
 ·rw [Ae h];rfl
 ·unfold ask;rw [if_neg h]
theorem Avk {x:Int} (h0:0≤x) (h1:x<100):(Li fun n=>Dm n x)=some (Aeb x):=by
 by_cases h:x<10
 ·refine Ahi (n:=1) (Z4 h0 h 0) fun m w hw=> ?_
  cases m with
  | zero=>cases hw
  | succ m=>rw [Z4 h0 h m] at hw;exact (Option.some.inj hw).symm
 ·refine Ahi (n:=2) (Agx (by omega) h1 0) fun m w hw=> ?_
  match m,hw with
  | 0,hw=>cases hw
  | 1,hw=>rw [Aqb (by omega)] at hw;cases hw
  | m+2,hw=>rw [Agx (by omega) h1 m] at hw;exact (Option.some.inj hw).symm
theorem As3 {x:Int} (h0:0≤x) (h1:x<100):He x=some (Aeb x):=by
 unfold He
 rw [Ae ⟨h0,h1⟩];rfl
theorem Axy {b s:ByteArray} (h:b.size+s.size≤4294967296):Aw b s=some ((),b++s):=by
 unfold Aw
 rw [Ae (by rw [Co];exact h)]
end Go.Proofs.YtbnoclklhcbidaaDoor.Ax
namespace Go.Proofs.YtbnoclklhcbidaaDoor.Ax
open Go Classical
def mkB (l:List UInt8):ByteArray:=⟨l.toArray⟩
theorem Gm (u w:List UInt8):mkB u++mkB w=mkB (u++w):=by
 show ByteArray.mk _=_
 simp [mkB]
theorem Be (l:List UInt8):(mkB l).size=l.length:=by
 show l.toArray.size=_
 simp
theorem Nb (l:List UInt8):(mkB l).toList=l:=by rw [ByteArray.toList_eq];simp [mkB]
theorem Axi (s:ByteArray):s=mkB s.toList:=by
 rw [ByteArray.toList_eq]
 simp [mkB]
theorem Acv (x:Int):Aeb x=mkB (Zd x.toNat):=rfl
def sT (x:Int):List UInt8:=if 0≤x then 120::Zd x.toNat else 102::Zd (-1-x).toNat
def Ln:List (List UInt8)→List UInt8
 | []=>[]
 | [u]=>u
 | u::v::r=>u++44::Ln (v::r)
def Sp:List (List UInt8)→List UInt8
 | []=>[]
 | u::r=>40::(Ln (u::r)++[41])
def Aez:Nat→List (List UInt8)→List UInt8
 | _,[]=>[]
 | 0,u::r=>40::(Ln (u::r)++[41])
 | _+1,u::r=>44::(Ln (u::r)++[41])
theorem Amx (l:List (List UInt8)):Aez 0 l=Sp l:=by cases l<;>rfl
theorem Amn (j:Nat) (u:List UInt8) (r:List (List UInt8)):Aez j (u::r)=(if j=0 then [40] else [44])++u++(if r=[] then [41] else [])++Aez (j+1) r:=by
 cases r with
 | nil=>cases j<;>simp [Aez,Ln]
 | cons v r=>cases j<;>simp [Aez,Ln]
theorem Aj0 (n:Nat):(Zd n).length≤2:=by unfold Zd;split<;>simp
theorem Ann (x:Int):(sT x).length≤3:=by
 have h1:=Aj0 x.toNat
 have h2:=Aj0 (-1-x).toNat
 unfold sT
 split<;>simp<;>omega
def evT (a:SAlgebra) (l:List Int):List (List UInt8):=Jj a sT (fun x zs=>sT x++Sp zs) l []
def txT (a:SAlgebra) (t:List Int):List UInt8:=Ak8 a sT (fun x zs=>sT x++Sp zs) t
def W1:List (List UInt8)→Nat
 | []=>0
 | u::r=>u.length+1+W1 r
theorem Aa0 : ∀(u w:List (List UInt8)),W1 (u++w)=W1 u+W1 w
 | [],w=>by simp [W1]
 | x::u,w=>by simp only [List.cons_append,W1,Aa0 u w];omega
theorem Ag6 : ∀(l:List (List UInt8)),(Ln l).length≤W1 l
 | []=>Nat.le_refl _
 | [u]=>by simp [Ln,W1]
 | u::v::r=>by
   have:=Ag6 (v::r)
   simp only [Ln,W1,List.length_append,List.length_cons] at *
   omega
theorem Ad2 (l:List (List UInt8)):(Sp l).length≤W1 l+2:=by
 cases l with
 | nil=>simp [Sp]
 | cons u r=>
   have:=Ag6 (u::r)
   simp only [Sp,List.length_cons,List.length_append,List.length_nil]
   omega
section
variable {a:SAlgebra}
theorem Yy : ∀(l:List Int),W1 (evT a l)≤6*l.length
 | []=>Nat.le_refl _
 | x::l=>by
   have ih:=Yy l
   have hs:=Ann x
   unfold evT at ih ⊢
   simp only [Jj,List.length_cons]
   split
   ·simp only [W1];omega
   ·have hp:=Ad2 (List.take (arT a x) (Jj a sT (fun x zs=>sT x++Sp zs) l []))
    have he:=Aa0 (List.take (arT a x) (Jj a sT (fun x zs=>sT x++Sp zs) l [])) (List.drop (arT a x) (Jj a sT (fun x zs=>sT x++Sp zs) l []))
    rw [List.take_append_drop] at he
    simp only [W1,List.length_append]
    omega
theorem Acx {l:List Int} {m:Nat} (h:WF a m l):(evT a l).length=m:=Aqh h
theorem T8 {p q:List Int} (h:WF a 1 p):evT a (p++q)=txT a p::evT a q:=by
 unfold evT txT
 rw [H4,Zt h]
theorem Acw {p:List Int} (h:WF a 1 p):evT a p=[txT a p]:=by
 have:=T8 (q:=[]) h
 rw [List.append_nil] at this
 rw [this];rfl
theorem Ao0 {p:List Int} (h:WF a 1 p):(txT a p).length+1≤6*p.length:=by
 have:=Yy (a:=a) p
 rw [Acw h] at this
 simpa [W1] using this
theorem Aji {x:Int} {l:List Int} (h0:¬0≤x) (h:WF a (arT a x) l):txT a (x::l)=sT x++Sp (evT a l):=by
 have hl:=Acx h
 unfold txT Ak8
 simp only [Jj,if_neg h0]
 show sT x++Sp ((evT a l).take (arT a x))=_
 rw [List.take_of_length_le (by omega)]
theorem Ack {x:Int} {l:List Int} (h0:0≤x):txT a (x::l)=sT x:=by
 unfold txT Ak8
 simp only [Jj,if_pos h0]
 rfl
theorem Aeq {s1 s2:ByteArray→SAlgebra→List Int→Int→Option (Int×ByteArray)} (h : ∀b c t i,LeO (s1 b c t i) (s2 b c t i)) (b:ByteArray) (c:SAlgebra) (t:List Int) (i:Int):LeO (Cs s1 b c t i) (Cs s2 b c t i):=by
 unfold Cs
 refine LeO.ask (LeO.ask (LeO.ite (LeO.refl _) (LeO.ask (LeO.bind (LeO.refl _) fun _=>LeO.ask (LeO.bind (LeO.refl _) fun _=>LeO.bind (LeO.loop (fun s=> ?_) _) fun _=>LeO.refl _)))))
 obtain ⟨x,y,z⟩:=s
 unfold Dq
 dsimp only
 exact LeO.ask (LeO.ask (LeO.ite (LeO.bind (LeO.refl _) fun _=>LeO.bind (h _ _ _ _) fun _=>LeO.refl _) (LeO.refl _)))
theorem Ajl (b:ByteArray) (c:SAlgebra) (t:List Int) (i:Int):upO fun n=>B8 n b c t i:=by
 have step : ∀n b c t i,LeO (B8 n b c t i) (B8 (n+1) b c t i):=by
  intro n
  induction n with
  | zero=>intro b c t i v e;cases e
  | succ n ih=>intro b c t i;exact Aeq ih b c t i
 exact Afb fun n=>step n b c t i
theorem Akx {s1 s2:SAlgebra→List Int→Option ByteArray} (h : ∀b t,LeO (s1 b t) (s2 b t)) (b:SAlgebra) (t:List Int):LeO (Ds s1 b t) (Ds s2 b t):=by
 unfold Ds
 refine LeO.ask (LeO.ite (LeO.refl _) (LeO.ask (LeO.ask (LeO.bind (LeO.refl _) fun r=>LeO.ask (LeO.bind (LeO.refl _) fun _=>LeO.bind (LeO.loop (fun s=> ?_) _) fun _=>LeO.refl _)))))
 obtain ⟨x,y⟩:=s
 unfold C7
 dsimp only
 exact LeO.ite (LeO.bind (LeO.refl _) fun _=>LeO.ask (LeO.bind (h _ _) fun _=>LeO.refl _)) (LeO.refl _)
theorem Ap3 (b:SAlgebra) (t:List Int):upO fun n=>Ca n b t:=by
 have step : ∀n b t,LeO (Ca n b t) (Ca (n+1) b t):=by
  intro n
  induction n with
  | zero=>intro b t v e;cases e
  | succ n ih=>intro b t;exact Akx ih b t
 exact Afb fun n=>step n b t
theorem Are {u w:List UInt8} (h:u.length+w.length≤4294967296):Aw (mkB u) (mkB w)=some ((),mkB (u++w)):=by
 rw [Axy (by rw [Be,Be];exact h),Gm]
theorem Am9 {u:List UInt8} {c:UInt8} (h:u.length≤4294967295):Aw (mkB u) (ByteArray.mk #[c])=some ((),mkB (u++[c])):=Are (w:=[c]) (by simp;omega)
theorem Wa (hg:B0 a) : ∀(n:Nat) {p:List Int},p.length≤n → ∀ {t q:List Int} {i:Nat} {b:List UInt8},t.drop i=p++q→WF a 1 p→t.length≤60→b.length+6*p.length≤100000 →
  B8 n (mkB b) a t (i:Int)=some (((i+p.length:Nat):Int),mkB (b++txT a p))
 | 0,p,hp,_,_,_,_,_,h,_,_=>by have:=h.pos;omega
 | n+1,p,hp,t,q,i,b,hd,h,h60,hbl=>by
   cases p with
   | nil=>exact absurd h.pos (by simp)
   | cons x p'=>
     have hlt:i<t.length:=by
      rcases Nat.lt_or_ge i t.length with c | c
      ·exact c
      ·rw [List.drop_eq_nil_of_le c] at hd;cases hd
     have h4:=hg.2.2.1
     have hlen:=congrArg List.length hd
     simp only [List.length_drop,List.length_append,List.length_cons] at hlen hp hbl
     rw [F6 hlt] at hd
     have hx:nth t i=x:=(List.cons.inj hd).1
     have hd':t.drop (i+1)=p'++q:=(List.cons.inj hd).2
     obtain ⟨hsy,h2⟩:Sc a x∧WF a (nxT a 0 x) p':=h
     have hs6:=hsy.1
     have hs4:=hsy.2
     have hsl:=Ann x
     show Cs (B8 n) (mkB b) a t (i:Int)=_
     unfold Cs
     rw [Ae (by omega),Ae (by unfold InI;omega),Int.toNat_natCast,hx]
     by_cases h0:0≤x
     ·rw [nxT,if_pos h0] at h2
      have:=h2.zero
      subst this
      have hn:=Px x
      have e1:(ByteArray.mk #[(120:UInt8)]).size=1:=rfl
      rw [if_pos h0,Ack h0,As3 h0 (by omega)]
      simp only [Option.bind_some]
      rw [Ae (by rw [e1];omega)]
      have e2:ByteArray.mk #[(120:UInt8)]++Aeb x=mkB (sT x):=by
       rw [Acv,show ByteArray.mk #[(120:UInt8)]=mkB [120] from rfl,Gm,sT,if_pos h0];rfl
      rw [e2,Are (by omega)]
      rfl
     ·rw [nxT,if_neg h0,Nat.zero_add] at h2
      obtain ⟨o1,o2,o3,_,_⟩:=hg.op (x:=x) (by omega) hsy.2
      have hn:=Px (-1-x)
      have e1:(ByteArray.mk #[(102:UInt8)]).size=1:=rfl
      rw [if_neg h0,Ae (by unfold InI;omega),As3 (by omega) (by omega)]
      simp only [Option.bind_some]
      rw [Ae (by rw [e1];omega)]
      have e2:ByteArray.mk #[(102:UInt8)]++Aeb (-1-x)=mkB (sT x):=by
       rw [Acv,show ByteArray.mk #[(102:UInt8)]=mkB [102] from rfl,Gm,sT,if_neg h0];rfl
      rw [e2,Are (by omega)]
      simp only [Option.bind_some]
      have hev:=Yy (a:=a) p'
      have hpl:=Ad2 (evT a p')
      obtain ⟨r,e,hr⟩:=F8 (body:=Dq (B8 n) a t (i:Int)) (fun s => ∃(k m j:Nat) (pr:List Int) (u:List UInt8),s.1=(k:Int)∧s.2.1=(j:Int)∧s.2.2=mkB u∧k+m=arT a x∧WF a m pr∧t.drop j=pr++q∧j+pr.length=i+1+p'.length∧pr.length≤p'.length∧u++Aez k (evT a pr)=b++sT x++Sp (evT a p')∧u.length+6*pr.length≤b.length+3+6*p'.length+(if m=0 then 1 else 0))
       (fun s=>(3-s.1).toNat) (fun r=>r=(((i+1+p'.length:Nat):Int),mkB (b++sT x++Sp (evT a p')))) (fun s hs=>by
       obtain ⟨x10,x3,x66⟩:=s
       obtain ⟨k,m,j,pr,u,g1,g2,g3,g4,g5,g6,g7,g8,g9,g10⟩:=hs
       simp only at g1 g2 g3
       subst g1 g2 g3
       unfold Dq
       dsimp only
       rw [Int.toNat_natCast,hx,Ae (by unfold InI;omega),Ae (by omega),o2]
       cases m with
       | zero=>
         right
         have:=g5.zero
         subst this
         rw [if_neg (by omega)]
         refine ⟨_,rfl,?_⟩
         simp only [List.length_nil] at g7
         have e3:Aez k (evT a [])=[]:=by cases k<;>rfl
         rw [e3,List.append_nil] at g9
         rw [g9,←g7]
         rfl
       | succ m=>
         left
         rw [Nat.add_comm] at g5
         obtain ⟨p1,p2,rfl,k1,k2⟩:=WF.split 1 g5
         have hpos:=k1.pos
         have ht1:=Ao0 k1
         rw [List.length_append] at g7 g8 g10
         rw [List.append_assoc] at g6
         rw [T8 k1,Amn] at g9
         rw [if_neg (by omega)] at g10
         have hlo:m=0↔evT a p2=[]:=by
          have:=Acx k2
          constructor
          ·intro h;rw [h] at this;exact List.length_eq_zero_iff.1 this
          ·intro h;rw [h] at this;exact this.symm
         rw [if_pos (by omega)]
         have e3:(if (k:Int)=0 then (Aw (mkB u) (ByteArray.mk #[40])).bind fun (_,u18)=>some u18 else (Aw (mkB u) (ByteArray.mk #[44])).bind fun (_,u20)=>some u20)=some (mkB (u++if k=0 then [40] else [44])):=by
          by_cases hk:k=0
          ·rw [if_pos (by omega),Am9 (by omega),if_pos hk];rfl
          ·rw [if_neg (by omega),Am9 (by omega),if_neg hk];rfl
         rw [e3]
         simp only [Option.bind_some]
         have hsep:(u++if k=0 then [40] else [44]).length=u.length+1:=by split<;>simp
         rw [Wa hg n (p:=p1) (by omega) g6 k1 h60 (by rw [hsep];omega)]
         simp only [Option.bind_some]
         rw [Ae (by unfold InI;omega),Ae (by omega),Ae (by unfold InI;omega)]
         by_cases hm:m=0
         ·have hnil:=hlo.1 hm
          rw [if_pos (by omega),Am9 (by rw [List.length_append,hsep];omega)]
          simp only [Option.bind_some]
          rw [Ae (by unfold InI;omega)]
          refine ⟨_,rfl,⟨k+1,m,j+p1.length,p2,_,rfl,rfl,rfl,by omega,k2,Ze g6,by omega,by omega,?_,?_⟩,by simp only;omega⟩
          ·rw [if_pos hnil] at g9
           simpa using g9
          ·simp only [List.length_append,hsep,List.length_cons,List.length_nil]
           rw [if_pos hm]
           omega
         ·have hnil:¬evT a p2=[]:=fun h=>hm (hlo.2 h)
          rw [if_neg (by omega),Ae (by unfold InI;omega)]
          refine ⟨_,rfl,⟨k+1,m,j+p1.length,p2,_,rfl,rfl,rfl,by omega,k2,Ze g6,by omega,by omega,?_,?_⟩,by simp only;omega⟩
          ·rw [if_neg hnil] at g9
           simpa using g9
          ·simp only [List.length_append,hsep]
           rw [if_neg hm]
           omega) (s:=((0:Int),((i:Int)+1),mkB (b++sT x))) ⟨0,arT a x,i+1,p',b++sT x,rfl,by simp only;omega,rfl,by omega,h2,hd',by omega,Nat.le_refl _,by rw [Amx],by simp only [List.length_append];split<;>omega⟩
      rw [e,hr]
      simp only [Option.bind_some]
      rw [Aji h0 h2]
      congr 2
      ·simp only [List.length_cons];omega
      ·simp
end
end Go.Proofs.YtbnoclklhcbidaaDoor.Ax
namespace Go.Proofs.YtbnoclklhcbidaaDoor.Ax
open Go Classical
def Mp:Nat→List (List UInt8)→List UInt8
 | 0,[]=>[]
 | _+1,[]=>[41]
 | 0,u::r=>40::(u++Mp 1 r)
 | j+1,u::r=>44::(u++Mp (j+2) r)
theorem Aeu : ∀(r:List (List UInt8)) (u:List UInt8) (j k:Nat),u++Mp (j+1) r=Ln (u::r)++[41]∧Mp (j+1) r=Mp (k+1) r
 | [],u,j,k=>⟨by simp [Mp,Ln],rfl⟩
 | v::r,u,j,k=>by
   have h1:=Aeu r v (j+1) (k+1)
   refine ⟨?_,?_⟩
   ·simp only [Mp,Ln]
    rw [h1.1]
    simp
   ·simp only [Mp]
    rw [h1.2]
theorem An1 (l:List (List UInt8)):Mp 0 l=Sp l:=by
 cases l with
 | nil=>rfl
 | cons u r=>simp only [Mp,Sp];rw [(Aeu r u 0 0).1]
theorem Anz (j:Nat) (u:List UInt8) (r:List (List UInt8)):Mp j (u::r)=(if j=0 then [40] else [44])++u++Mp (j+1) r:=by
 cases j with
 | zero=>simp [Mp]
 | succ j=>simp [Mp]
section
variable {a:SAlgebra}
theorem Amg : ∀ {ps:List (List Int)},(∀r∈ps,WF a 1 r)→evT a ps.flatten=ps.map (txT a)
 | [],_=>rfl
 | p::ps,h=>by
   rw [List.flatten_cons,T8 (h p List.mem_cons_self),Amg fun r hr=>h r (List.mem_cons_of_mem _ hr)]
   rfl
def Aac (a:SAlgebra) (u:List UInt8) (ps:List (List Int)):Nat→List UInt8
 | 0=>u
 | j+1=>Aac a u ps j++(if j=0 then [40] else [44])++txT a (nth ps j)
theorem Z9 (u:List UInt8) (ps:List (List Int)) : ∀j,j≤ps.length→Aac a u ps j++Mp j ((ps.drop j).map (txT a))=u++Sp (ps.map (txT a))
 | 0,_=>by rw [←An1];rfl
 | j+1,h=>by
   have ih:=Z9 u ps j (by omega)
   rw [F6 (by omega),List.map_cons,Anz] at ih
   rw [←ih]
   simp [Aac]
theorem Adr (hg:B0 a) : ∀(n:Nat) {p:List Int},p.length≤n→WF a 1 p→p.length≤60→Ca n a p=some (mkB (txT a p))
 | 0,p,hp,h,_=>by have:=h.pos;omega
 | n+1,p,hp,h,h60=>by
   cases p with
   | nil=>exact absurd h.pos (by simp)
   | cons x p'=>
     simp only [List.length_cons] at hp h60
     obtain ⟨hsy,h2⟩:Sc a x∧WF a (nxT a 0 x) p':=h
     have h4:=hg.2.2.1
     have hs6:=hsy.1
     have hs4:=hsy.2
     have hsl:=Ann x
     show Ds (Ca n) a (x::p')=_
     unfold Ds
     have e0:nth (x::p') (Int.toNat 0)=x:=rfl
     rw [Ae (by simp),e0]
     by_cases h0:0≤x
     ·have e1:(ByteArray.mk #[(120:UInt8)]).size=1:=rfl
      have hn:=Px x
      rw [if_pos h0,Ack h0,Ae (by simp),Avk h0 (by omega)]
      simp only [Option.bind_some]
      rw [Ae (by rw [e1];omega)]
      rw [Acv,show ByteArray.mk #[(120:UInt8)]=mkB [120] from rfl,Gm,sT,if_pos h0]
      rfl
     ·rw [nxT,if_neg h0,Nat.zero_add] at h2
      obtain ⟨ps,e,f1,f2,f3⟩:=Aqm hg (x:=x) h2 (by omega)
      have hev:=Amg f2
      rw [f1] at hev
      have hsum:=Yy (a:=a) p'
      have hpl:=Ad2 (evT a p')
      have hlen : ∀r∈ps,r.length≤p'.length:=fun r hr=>by
       rw [←f1]
       exact (List.sublist_flatten_of_mem hr).length_le
      have e1:(ByteArray.mk #[(102:UInt8)]).size=1:=rfl
      have hn:=Px (-1-x)
      rw [if_neg h0,Ae (by simp),Ae (by unfold InI;omega),Avk (by omega) (by omega)]
      simp only [Option.bind_some]
      rw [Ae (by rw [e1];omega),e]
      simp only [Option.bind_some]
      have e2:ByteArray.mk #[(102:UInt8)]++Aeb (-1-x)=mkB (sT x):=by
       rw [Acv,show ByteArray.mk #[(102:UInt8)]=mkB [102] from rfl,Gm,sT,if_neg h0];rfl
      rw [e2]
      have hU : ∀j,j≤ps.length→(Aac a (sT x) ps j).length≤1000:=fun j hj=>by
       have:=congrArg List.length (Z9 (a:=a) (sT x) ps j hj)
       rw [←hev] at this
       simp only [List.length_append] at this
       omega
      have key:=Np (body:=C7 (Ca n) a ps) (fun j=>((j:Int),mkB (Aac a (sT x) ps j))) ps.length (mkB (Aac a (sT x) ps ps.length)) (fun j hj=>by
       have hr:=Cf hj
       have hrl:=hlen _ hr
       have hu:=hU j (by omega)
       have ht:=Ao0 (f2 _ hr)
       have c1:(ByteArray.mk #[(40:UInt8)]).size=1:=rfl
       have c2:(ByteArray.mk #[(44:UInt8)]).size=1:=rfl
       unfold C7
       dsimp only
       have e3:(if (j:Int)=0 then ask ((mkB (Aac a (sT x) ps j)).size+(ByteArray.mk #[40]).size≤9223372036854775807) (some (mkB (Aac a (sT x) ps j)++ByteArray.mk #[40])) else ask ((mkB (Aac a (sT x) ps j)).size+(ByteArray.mk #[44]).size≤9223372036854775807) (some (mkB (Aac a (sT x) ps j)++ByteArray.mk #[44])))=some (mkB (Aac a (sT x) ps j++if j=0 then [40] else [44])):=by
        by_cases hk:j=0
        ·rw [if_pos (by omega),Ae (by rw [Be,c1];omega),if_pos hk,show ByteArray.mk #[(40:UInt8)]=mkB [40] from rfl,Gm]
        ·rw [if_neg (by omega),Ae (by rw [Be,c2];omega),if_neg hk,show ByteArray.mk #[(44:UInt8)]=mkB [44] from rfl,Gm]
       rw [if_pos (by omega),e3]
       simp only [Option.bind_some]
       rw [Ae (by omega),Int.toNat_natCast,Adr hg n (by omega) (f2 _ hr) (by omega)]
       simp only [Option.bind_some]
       have hl2:(Aac a (sT x) ps j++if j=0 then [40] else [44]).length=(Aac a (sT x) ps j).length+1:=by split<;>simp
       rw [Ae (by rw [Be,Be,hl2];omega),Ae (by unfold InI;omega),Gm]
       rfl) (by
       unfold C7
       dsimp only
       rw [if_neg (by omega)])
      have key':A7 (C7 (Ca n) a ps) (0,mkB (sT x))=_:=key
      rw [key']
      simp only [Option.bind_some]
      rw [Aji h0 h2,hev]
      have hfin:=Z9 (a:=a) (sT x) ps ps.length (Nat.le_refl _)
      rw [List.drop_length] at hfin
      have hul:=hU ps.length (Nat.le_refl _)
      have c3:(ByteArray.mk #[(41:UInt8)]).size=1:=rfl
      by_cases hz:ps.length=0
      ·rw [if_neg (by omega)]
       rw [←hfin,hz]
       simp [Mp]
      ·rw [if_pos (by omega),Ae (by rw [Be,c3];omega),show ByteArray.mk #[(41:UInt8)]=mkB [41] from rfl,Gm,←hfin]
       obtain ⟨k,hk⟩ : ∃k,ps.length=k+1:=⟨ps.length-1,by omega⟩
       rw [hk]
       rfl
theorem Tv (hg:B0 a) {t:List Int} (ht:isT a t):(Li fun n=>Ca n a t)=some (mkB (txT a t)):=
 Ah5 (Ap3 a t) (Adr hg t.length (Nat.le_refl _) ht.2 ht.1)
theorem Atv {t:List Int} (ht:WF a 1 t):0<(txT a t).length:=by
 cases t with
 | nil=>exact absurd ht.pos (by simp)
 | cons x l=>
   have hs:0<(sT x).length:=by unfold sT;split<;>simp
   by_cases h0:0≤x
   ·rw [Ack h0];exact hs
   ·have h2:=ht.2
    rw [nxT,if_neg h0,Nat.zero_add] at h2
    rw [Aji h0 h2,List.length_append]
    omega
theorem Wh (hg:B0 a) {t:List Int} (ht:isT a t):Fh a t=some (mkB (txT a t)):=by
 unfold Fh
 have e1:(Li fun n=>B8 n ByteArray.empty a t 0)=some (((0+t.length:Nat):Int),mkB (txT a t)):=
  Ah5 (Ajl ByteArray.empty a t 0) (Wa hg t.length (Nat.le_refl _) (i:=0) (q:=[]) (b:=[]) (by simp) ht.2 ht.1 (by have:=ht.1;simp;omega))
 rw [e1]
 simp only [Option.bind_some]
 unfold Fs
 rw [Ae (by rw [Be];exact Atv ht.2)]
 rfl
theorem V9 (hsm:N5 a) {t:List Int}:Fk a t=some (if B0 a∧isT a t then (mkB (txT a t),true) else (ByteArray.mk #[],false))∧Gz a t=some (if B0 a∧isT a t then (mkB (txT a t),true) else (ByteArray.mk #[],false)):=by
 unfold Fk Gz
 rw [Py hsm,Jh hsm]
 simp only [Option.bind_some]
 by_cases h:B0 a∧isT a t
 ·rw [decide_eq_true h,if_pos rfl,if_pos rfl,if_pos h,Wh h.1 h.2,Tv h.1 h.2]
  exact ⟨rfl,rfl⟩
 ·rw [decide_eq_false h,if_neg h];exact ⟨rfl,rfl⟩
end
end Go.Proofs.YtbnoclklhcbidaaDoor.Ax
namespace Go.Proofs.YtbnoclklhcbidaaDoor.Ax
open Go Classical
def Ey (ok:UInt8→Bool):List UInt8→List Int
 | []=>[]
 | [_]=>[]
 | c::d::r=>(if (c=120∨c=102)∧ok d=true then [if c=102 then -1-((d.toNat:Int)-48) else (d.toNat:Int)-48] else [])++Ey ok (d::r)
section
variable {ok:UInt8→Bool}
theorem Ua {c:UInt8} (h1:c≠120) (h2:c≠102) (r:List UInt8):Ey ok (c::r)=Ey ok r:=by
 cases r with
 | nil=>rfl
 | cons d r=>simp only [Ey];rw [if_neg (fun h=>h.1.elim h1 h2)];rfl
theorem Ajx {a:SAlgebra} (h4:a.Ops.length≤4) (hok : ∀d:UInt8,48≤d→d≤57→ok d=true) {x:Int} (hx:Sc a x) (r:List UInt8):Ey ok (sT x++r)=x::Ey ok r:=by
 have h6:=hx.1
 have h5:=hx.2
 have two : ∀(c d:UInt8) (v:Int),(c=120∨c=102)→48≤d→d≤57→(if c=102 then -1-((d.toNat:Int)-48) else (d.toNat:Int)-48)=v→Ey ok (c::d::r)=v::Ey ok r:=by
  intro c d v hc h1 h2 hv
  simp only [Ey]
  rw [if_pos ⟨hc,hok d h1 h2⟩,hv,Ua (by rintro rfl;revert h2;decide) (by rintro rfl;revert h2;decide)]
  rfl
 have hcs:x = -4∨x = -3∨x = -2∨x = -1∨x=0∨x=1∨x=2∨x=3∨x=4∨x=5:=by omega
 rcases hcs with rfl | rfl | rfl | rfl | rfl | rfl | rfl | rfl | rfl | rfl
 ·exact two 102 51 _ (by decide) (by decide) (by decide) (by decide)
 ·exact two 102 50 _ (by decide) (by decide) (by decide) (by decide)
 ·exact two 102 49 _ (by decide) (by decide) (by decide) (by decide)
 ·exact two 102 48 _ (by decide) (by decide) (by decide) (by decide)
 ·exact two 120 48 _ (by decide) (by decide) (by decide) (by decide)
 ·exact two 120 49 _ (by decide) (by decide) (by decide) (by decide)
 ·exact two 120 50 _ (by decide) (by decide) (by decide) (by decide)
 ·exact two 120 51 _ (by decide) (by decide) (by decide) (by decide)
 ·exact two 120 52 _ (by decide) (by decide) (by decide) (by decide)
 ·exact two 120 53 _ (by decide) (by decide) (by decide) (by decide)
theorem Tu {a:SAlgebra} (h4:a.Ops.length≤4) (hok : ∀d:UInt8,48≤d→d≤57→ok d=true) : ∀(n:Nat) {l:List Int} {m:Nat},l.length≤n→WF a (m+1) l → ∀r,Ey ok (Ln (evT a l)++r)=l++Ey ok r
 | 0,l,m,hn,h,r=>by have:=h.pos;omega
 | n+1,l,m,hn,h,r=>by
   rw [Nat.add_comm] at h
   obtain ⟨p1,p2,rfl,k1,k2⟩:=WF.split 1 h
   rw [List.length_append] at hn
   rw [T8 k1]
   cases m with
   | zero=>
     have:=k2.zero
     subst this
     have e0:Ln (txT a p1::evT a [])=txT a p1:=rfl
     rw [e0,List.append_nil]
     cases p1 with
     | nil=>exact absurd k1.pos (by simp)
     | cons x q=>
       obtain ⟨hs,h2⟩:Sc a x∧WF a (nxT a 0 x) q:=k1
       simp only [List.length_cons,List.length_nil] at hn
       by_cases h0:0≤x
       ·rw [nxT,if_pos h0] at h2
        have:=h2.zero
        subst this
        rw [Ack h0,Ajx h4 hok hs]
        rfl
       ·rw [nxT,if_neg h0,Nat.zero_add] at h2
        have hl:=Acx h2
        rw [Aji h0 h2,List.append_assoc,Ajx h4 hok hs]
        cases har:arT a x with
        | zero=>
          rw [har] at h2
          have:=h2.zero
          subst this
          rfl
        | succ k=>
          rw [har] at h2 hl
          have hj:=Tu h4 hok n (l:=q) (by omega) h2
          cases hv:evT a q with
          | nil=>rw [hv] at hl;simp at hl
          | cons u v=>
            rw [hv] at hj
            simp only [Sp,List.cons_append,List.append_assoc]
            rw [Ua (by decide) (by decide),hj]
            simp only [List.nil_append]
            rw [Ua (by decide) (by decide)]
   | succ m=>
     have hl:=Acx k2
     have hp1:=k1.pos
     have hp2:=k2.pos
     cases hv:evT a p2 with
     | nil=>rw [hv] at hl;simp at hl
     | cons u v=>
       have h1:=Tu h4 hok n (l:=p1) (m:=0) (by omega) k1
       have h2:=Tu h4 hok n (l:=p2) (by omega) k2
       have e1:Ln (evT a p1)=txT a p1:=by rw [Acw k1];rfl
       rw [e1] at h1
       rw [hv] at h2
       simp only [Ln,List.append_assoc,List.cons_append]
       rw [h1,Ua (by decide) (by decide),h2]
theorem Alx {a:SAlgebra} (h4:a.Ops.length≤4) (hok : ∀d:UInt8,48≤d→d≤57→ok d=true) {t:List Int} (h:WF a 1 t):Ey ok (txT a t)=t:=by
 have h1:=Tu h4 hok t.length (l:=t) (m:=0) (Nat.le_refl _) h []
 rw [Acw h] at h1
 simpa [Ln,Ey] using h1
end
theorem Rg {l r:List UInt8} {c:UInt8} {i:Nat} (h:l.drop i=c::r):Cz (mkB l) (i:Int)=(c.toNat:Int):=by
 have hl:i<l.length:=by
  rcases Nat.lt_or_ge i l.length with h1 | h1
  ·exact h1
  ·rw [List.drop_eq_nil_of_le h1] at h;cases h
 unfold Cz
 rw [Int.toNat_natCast]
 have e:(mkB l).data.getD i 0=c:=by
  have:l[i]? = some c:=by rw [←List.head?_drop,h];rfl
  simp [mkB,Array.getD_eq_getD_getElem?,this]
 rw [e]
def Qr (d:UInt8):Bool:=decide (48≤d∧d≤57)
theorem Avr (c d:UInt8):c≤d↔c.toNat≤d.toNat:=UInt8.le_iff_toNat_le
theorem Acp {c:UInt8} {n:Nat} (hn:n<256):(c.toNat:Int)=(n:Int)↔c=UInt8.ofNat n:=by
 constructor
 ·intro h
  have:c.toNat=n:=by omega
  rw [←this];simp
 ·rintro rfl
  simp;omega
theorem Aw3 {n:Int} (h0:0≤n) (h1:n≤255):IntKind.u8.wrap n=n:=by
 obtain ⟨k,rfl⟩ : ∃k:Nat,n=k:=⟨n.toNat,by omega⟩
 simp [IntKind.wrap,IntKind.signed,IntKind.bits]
 omega
theorem Aha (a:SAlgebra) (l:List UInt8) (hl:l.length≤1000000) : ∀(rest:List UInt8) (i:Nat) (acc:List Int),l.drop i=rest→i+rest.length=l.length→acc.length≤61 →
  A7 (Bj a (mkB l)) ((i:Int),acc)=some ((acc++Ey Qr rest).take 61)
 | [],i,acc,hd,hi,ha=>by
   simp only [List.length_nil] at hi
   refine Bg ?_
   unfold Bj
   dsimp only
   rw [if_neg (by rw [Be];omega)]
   simp only [Option.bind_some,Ey,List.append_nil]
   rw [List.take_of_length_le ha]
 | c::r,i,acc,hd,hi,ha=>by
   have hL:=Co
   simp only [List.length_cons] at hi
   have hc:=Rg hd
   have hc8:=c.toNat_lt
   have hd':l.drop (i+1)=r:=by rw [←List.drop_drop,hd];rfl
   by_cases h60:acc.length≤60
   ·-- one step
    have fin : ∀acc',acc'.length≤61→(acc'++Ey Qr r)=(acc++Ey Qr (c::r))→Bj a (mkB l) ((i:Int),acc)=some (.inl ((i:Int)+1,acc'))→A7 (Bj a (mkB l)) ((i:Int),acc)=some ((acc++Ey Qr (c::r)).take 61):=by
     intro acc' h1 h2 h3
     rw [C1 h3,←h2]
     have:=Aha a l hl r (i+1) acc' hd' (by omega) h1
     simpa using this
    have b1:(c.toNat:Int)=120↔c=120:=Acp (n:=120) (by omega)
    have b2:(c.toNat:Int)=102↔c=102:=Acp (n:=102) (by omega)
    cases r with
    | nil=>
      refine fin acc ha rfl ?_
      unfold Bj
      dsimp only
      simp only [List.length_nil] at hi
      rw [if_pos (by rw [Be];omega),if_pos (by omega)]
      simp only [Option.bind_some]
      rw [Ae (by rw [Be];omega)]
      by_cases h1:Cz (mkB l) (i:Int)≠120
      ·rw [if_pos h1,Ae (by rw [Be];omega)]
       by_cases h2:Cz (mkB l) (i:Int)≠102
       ·rw [if_pos h2]
        simp only [Option.bind_some]
        rw [Ae (by unfold InI;omega)]
       ·rw [if_neg h2,Ae (by unfold InI;omega),if_pos (by rw [Be];omega)]
        simp only [Option.bind_some]
        rw [Ae (by unfold InI;omega)]
      ·rw [if_neg h1,Ae (by unfold InI;omega),if_pos (by rw [Be];omega)]
       simp only [Option.bind_some]
       rw [Ae (by unfold InI;omega)]
    | cons d r=>
      simp only [List.length_cons] at hi
      have hdd:Cz (mkB l) ((i:Int)+1)=(d.toNat:Int):=Rg (i:=i+1) hd'
      have hd8:=d.toNat_lt
      have hdig:Qr d=true↔¬(d.toNat:Int)<48∧¬(d.toNat:Int)>57:=by
       unfold Qr
       rw [decide_eq_true_iff,Avr,Avr]
       have e1:(48:UInt8).toNat=48:=rfl
       have e2:(57:UInt8).toNat=57:=rfl
       rw [e1,e2]
       omega
      by_cases hcase:(c=120∨c=102)∧Qr d=true
      ·refine fin (acc++[if c=102 then -1-((d.toNat:Int)-48) else (d.toNat:Int)-48]) (by simp;omega) ?_ ?_
       ·simp only [Ey]
        rw [if_pos hcase,List.append_assoc]
       ·have hg:=hdig.1 hcase.2
        have w1:IntKind.i64.wrap (IntKind.u8.wrap ((d.toNat:Int)-48))=(d.toNat:Int)-48:=by
         rw [Aw3 (by omega) (by omega),My (by omega) (by omega)]
        unfold Bj
        dsimp only
        rw [if_pos (by rw [Be];omega),if_pos (by omega)]
        simp only [Option.bind_some]
        rw [Ae (by rw [Be];omega),hdd,hc]
        have inner:(if (c.toNat:Int)≠120 then
          ask (0≤(i:Int)∧(i:Int)<((mkB l).size:Int)) (if (c.toNat:Int)≠102 then some (.inl ()) else
           ask (InI ((i:Int)+1)) (if (i:Int)+1≥((mkB l).size:Int) then some (.inl ()) else
            ask (InI ((i:Int)+1)) (ask (0≤(i:Int)+1∧(i:Int)+1<((mkB l).size:Int)) (if (d.toNat:Int)<48 then some (.inl ()) else
             ask (InI ((i:Int)+1)) (ask (0≤(i:Int)+1∧(i:Int)+1<((mkB l).size:Int)) (if (d.toNat:Int)>57 then some (.inl ()) else some (.inr ())))))))
         else
          ask (InI ((i:Int)+1)) (if (i:Int)+1≥((mkB l).size:Int) then some (.inl ()) else
           ask (InI ((i:Int)+1)) (ask (0≤(i:Int)+1∧(i:Int)+1<((mkB l).size:Int)) (if (d.toNat:Int)<48 then some (.inl ()) else
            ask (InI ((i:Int)+1)) (ask (0≤(i:Int)+1∧(i:Int)+1<((mkB l).size:Int)) (if (d.toNat:Int)>57 then some (.inl ()) else some (.inr ())))))))=(some (.inr ()):Option (Unit ⊕ Unit)):=by
         have tail:ask (InI ((i:Int)+1)) (if (i:Int)+1≥((mkB l).size:Int) then some (.inl ()) else
           ask (InI ((i:Int)+1)) (ask (0≤(i:Int)+1∧(i:Int)+1<((mkB l).size:Int)) (if (d.toNat:Int)<48 then some (.inl ()) else
            ask (InI ((i:Int)+1)) (ask (0≤(i:Int)+1∧(i:Int)+1<((mkB l).size:Int)) (if (d.toNat:Int)>57 then some (.inl ()) else some (.inr ()))))))=(some (.inr ()):Option (Unit ⊕ Unit)):=by
          rw [Ae (by unfold InI;omega),if_neg (by rw [Be];omega),Ae (by unfold InI;omega),Ae (by rw [Be];omega),if_neg hg.1,Ae (by unfold InI;omega),Ae (by rw [Be];omega),if_neg hg.2]
         by_cases h1:(c.toNat:Int)≠120
         ·have h2:c=102:=hcase.1.resolve_left fun h=>h1 (b1.2 h)
          rw [if_pos h1,Ae (by rw [Be];omega),if_neg (by simpa using b2.2 h2)]
          exact tail
         ·rw [if_neg h1]
          exact tail
        rw [inner]
        simp only [Option.bind_some]
        rw [Ae (by unfold InI;omega),Ae (by rw [Be];omega),Ae (by rw [Be];omega),w1]
        by_cases h2:c=102
        ·rw [if_pos (b2.2 h2),Ae (by unfold InI;omega),Ae (by simp;omega),Ae (by unfold InI;omega),if_pos h2]
        ·rw [if_neg (fun h=>h2 (b2.1 h)),Ae (by simp;omega),Ae (by unfold InI;omega),if_neg h2]
      ·refine fin acc ha ?_ ?_
       ·simp only [Ey]
        rw [if_neg hcase];rfl
       ·unfold Bj
        dsimp only
        rw [if_pos (by rw [Be];omega),if_pos (by omega)]
        simp only [Option.bind_some]
        rw [Ae (by rw [Be];omega),hdd,hc]
        have inner:(if (c.toNat:Int)≠120 then
          ask (0≤(i:Int)∧(i:Int)<((mkB l).size:Int)) (if (c.toNat:Int)≠102 then some (.inl ()) else
           ask (InI ((i:Int)+1)) (if (i:Int)+1≥((mkB l).size:Int) then some (.inl ()) else
            ask (InI ((i:Int)+1)) (ask (0≤(i:Int)+1∧(i:Int)+1<((mkB l).size:Int)) (if (d.toNat:Int)<48 then some (.inl ()) else
             ask (InI ((i:Int)+1)) (ask (0≤(i:Int)+1∧(i:Int)+1<((mkB l).size:Int)) (if (d.toNat:Int)>57 then some (.inl ()) else some (.inr ())))))))
         else
          ask (InI ((i:Int)+1)) (if (i:Int)+1≥((mkB l).size:Int) then some (.inl ()) else
           ask (InI ((i:Int)+1)) (ask (0≤(i:Int)+1∧(i:Int)+1<((mkB l).size:Int)) (if (d.toNat:Int)<48 then some (.inl ()) else
            ask (InI ((i:Int)+1)) (ask (0≤(i:Int)+1∧(i:Int)+1<((mkB l).size:Int)) (if (d.toNat:Int)>57 then some (.inl ()) else some (.inr ())))))))=(some (.inl ()):Option (Unit ⊕ Unit)):=by
         have tail:Qr d=false→ask (InI ((i:Int)+1)) (if (i:Int)+1≥((mkB l).size:Int) then some (.inl ()) else
           ask (InI ((i:Int)+1)) (ask (0≤(i:Int)+1∧(i:Int)+1<((mkB l).size:Int)) (if (d.toNat:Int)<48 then some (.inl ()) else
            ask (InI ((i:Int)+1)) (ask (0≤(i:Int)+1∧(i:Int)+1<((mkB l).size:Int)) (if (d.toNat:Int)>57 then some (.inl ()) else some (.inr ()))))))=(some (.inl ()):Option (Unit ⊕ Unit)):=by
          intro hno
          rw [Ae (by unfold InI;omega),if_neg (by rw [Be];omega),Ae (by unfold InI;omega),Ae (by rw [Be];omega)]
          by_cases g1:(d.toNat:Int)<48
          ·rw [if_pos g1]
          ·rw [if_neg g1,Ae (by unfold InI;omega),Ae (by rw [Be];omega)]
           by_cases g2:(d.toNat:Int)>57
           ·rw [if_pos g2]
           ·rw [hdig.2 ⟨g1,g2⟩] at hno;cases hno
         by_cases h1:(c.toNat:Int)≠120
         ·rw [if_pos h1,Ae (by rw [Be];omega)]
          by_cases h2:(c.toNat:Int)≠102
          ·rw [if_pos h2]
          ·rw [if_neg h2]
           refine tail ?_
           cases ho:Qr d with
           | false=>rfl
           | true=>exact absurd ⟨.inr (b2.1 (by simpa using h2)),ho⟩ hcase
         ·rw [if_neg h1]
          refine tail ?_
          cases ho:Qr d with
          | false=>rfl
          | true=>exact absurd ⟨.inl (b1.1 (by simpa using h1)),ho⟩ hcase
        rw [inner]
        simp only [Option.bind_some]
        rw [Ae (by unfold InI;omega)]
   ·refine Bg ?_
    unfold Bj
    dsimp only
    rw [if_pos (by rw [Be];omega),if_neg (by omega)]
    simp only [Option.bind_some]
    rw [List.take_append_of_le_length (by omega),List.take_of_length_le (by omega)]
end Go.Proofs.YtbnoclklhcbidaaDoor.Ax
namespace Go.Proofs.YtbnoclklhcbidaaDoor.Ax
open Go Classical
def Qs (_:UInt8):Bool:=true
theorem Ahb (l:List UInt8) (hl:l.length≤1000000) : ∀(rest:List UInt8) (i:Nat) (acc:List Int),l.drop i=rest→i+rest.length=l.length→acc.length≤61 →
  A7 (Bu (mkB l)) ((i:Int),acc)=some ((acc++Ey Qs rest).take 61)
 | [],i,acc,hd,hi,ha=>by
   simp only [List.length_nil] at hi
   refine Bg ?_
   unfold Bu
   dsimp only
   rw [Ae (by unfold InI;omega),if_neg (by rw [Be];omega)]
   simp only [Option.bind_some,Ey,List.append_nil]
   rw [List.take_of_length_le ha]
 | [c],i,acc,hd,hi,ha=>by
   simp only [List.length_cons,List.length_nil] at hi
   refine Bg ?_
   unfold Bu
   dsimp only
   rw [Ae (by unfold InI;omega),if_neg (by rw [Be];omega)]
   simp only [Option.bind_some,Ey,List.append_nil]
   rw [List.take_of_length_le ha]
 | c::d::r,i,acc,hd,hi,ha=>by
   have hL:=Co
   simp only [List.length_cons] at hi
   have hc:=Rg hd
   have hc8:=c.toNat_lt
   have hd':l.drop (i+1)=d::r:=by rw [←List.drop_drop,hd];rfl
   have hdd:Cz (mkB l) ((i:Int)+1)=(d.toNat:Int):=Rg (i:=i+1) hd'
   have hd8:=d.toNat_lt
   by_cases h60:acc.length≤60
   ·have fin : ∀acc',acc'.length≤61→(acc'++Ey Qs (d::r))=(acc++Ey Qs (c::d::r))→Bu (mkB l) ((i:Int),acc)=some (.inl ((i:Int)+1,acc'))→A7 (Bu (mkB l)) ((i:Int),acc)=some ((acc++Ey Qs (c::d::r)).take 61):=by
     intro acc' h1 h2 h3
     rw [C1 h3,←h2]
     have:=Ahb l hl (d::r) (i+1) acc' hd' (by simp only [List.length_cons];omega) h1
     simpa using this
    have b1:(c.toNat:Int)=120↔c=120:=Acp (n:=120) (by omega)
    have b2:(c.toNat:Int)=102↔c=102:=Acp (n:=102) (by omega)
    have w1:IntKind.i64.wrap (d.toNat:Int)=(d.toNat:Int):=My (by omega) (by omega)
    have head:(if (c.toNat:Int)=120 then some true else ask (0≤(i:Int)∧(i:Int)<((mkB l).size:Int)) (some ((c.toNat:Int)==102)))=some (decide (c=120∨c=102)):=by
     by_cases h1:c=120
     ·rw [if_pos (b1.2 h1),decide_eq_true (.inl h1)]
     ·rw [if_neg (fun h=>h1 (b1.1 h)),Ae (by rw [Be];omega)]
      by_cases h2:c=102
      ·rw [decide_eq_true (.inr h2),b2.2 h2];rfl
      ·rw [decide_eq_false (by rintro (h | h)<;>contradiction)]
       congr 1
       rw [beq_eq_false_iff_ne]
       exact fun h=>h2 (b2.1 h)
    by_cases hcase:c=120∨c=102
    ·refine fin (acc++[if c=102 then -1-((d.toNat:Int)-48) else (d.toNat:Int)-48]) (by simp;omega) ?_ ?_
     ·have e0:(c=120∨c=102)∧Qs d=true:=⟨hcase,rfl⟩
      show _=acc++((if (c=120∨c=102)∧Qs d=true then [if c=102 then -1-((d.toNat:Int)-48) else (d.toNat:Int)-48] else [])++Ey Qs (d::r))
      rw [if_pos e0,List.append_assoc]
     ·unfold Bu
      dsimp only
      rw [Ae (by unfold InI;omega),if_pos (by rw [Be];omega),if_pos (by omega)]
      simp only [Option.bind_some]
      rw [Ae (by rw [Be];omega),hdd,hc,head,decide_eq_true hcase]
      simp only [Option.bind_some,if_true]
      rw [Ae (by unfold InI;omega),Ae (by rw [Be];omega),w1,Ae (by unfold InI;omega),Ae (by rw [Be];omega)]
      by_cases h2:c=102
      ·rw [if_pos (b2.2 h2),Ae (by unfold InI;omega),Ae (by simp;omega),Ae (by unfold InI;omega),if_pos h2]
      ·rw [if_neg (fun h=>h2 (b2.1 h)),Ae (by simp;omega),Ae (by unfold InI;omega),if_neg h2]
    ·refine fin acc ha ?_ ?_
     ·have e0:¬((c=120∨c=102)∧Qs d=true):=fun h=>hcase h.1
      show _=acc++((if (c=120∨c=102)∧Qs d=true then [if c=102 then -1-((d.toNat:Int)-48) else (d.toNat:Int)-48] else [])++Ey Qs (d::r))
      rw [if_neg e0];rfl
     ·unfold Bu
      dsimp only
      rw [Ae (by unfold InI;omega),if_pos (by rw [Be];omega),if_pos (by omega)]
      simp only [Option.bind_some]
      rw [Ae (by rw [Be];omega),hc,head,decide_eq_false hcase]
      simp only [Option.bind_some,Bool.false_eq_true,if_false]
      rw [Ae (by unfold InI;omega)]
   ·refine Bg ?_
    unfold Bu
    dsimp only
    rw [Ae (by unfold InI;omega),if_pos (by rw [Be];omega),if_neg (by omega)]
    simp only [Option.bind_some]
    rw [List.take_append_of_le_length (by omega),List.take_of_length_le (by omega)]
theorem Aem {a:SAlgebra} (hsm:N5 a) {s:ByteArray} (hl:s.size≤1000000) :
  ∃r,E4 a s=some r∧F4 a s=some r∧r.1.length≤61∧(r.2=true→B0 a∧isT a r.1∧mkB (txT a r.1)=s) ∧ ∀t,B0 a→isT a t→s=mkB (txT a t)→r=(t,true):=by
 have es:=Axi s
 have hsz:s.toList.length≤1000000:=by rw [ByteArray.toList_eq,Array.length_toList];exact hl
 have ei : ∀(u:List Int),u.length≤60→u.take 61=u:=fun u h=>List.take_of_length_le (by omega)
 have k1:=Aha a s.toList hsz s.toList 0 [] (by simp) (by simp) (by simp)
 have k2:=Ahb s.toList hsz s.toList 0 [] (by simp) (by simp) (by simp)
 rw [←es,List.nil_append] at k1 k2
 have inv1:B0 a → ∀ {t},isT a t→s.toList=txT a t→(Ey Qr s.toList).take 61=t:=by
  intro hg t ht e
  rw [e,Alx (ok:=Qr) hg.2.2.1 (fun d h1 h2=>decide_eq_true ⟨h1,h2⟩) ht.2,ei _ ht.1]
 have inv2:B0 a → ∀ {t},isT a t→s.toList=txT a t→(Ey Qs s.toList).take 61=t:=by
  intro hg t ht e
  rw [e,Alx (ok:=Qs) hg.2.2.1 (fun _ _ _=>rfl) ht.2,ei _ ht.1]
 generalize (Ey Qr s.toList).take 61=u at k1 inv1
 generalize hw:(Ey Qs s.toList).take 61=w at k2 inv2
 have k1':A7 (Bj a s) (0,A4 Int)=some u:=k1
 have k2':A7 (Bu s) (0,A4 Int)=some w:=k2
 unfold E4 F4 Js
 rw [Aay hsm,k1',k2']
 simp only [Option.bind_some]
 rw [Jh hsm]
 simp only [Option.bind_some]
 by_cases hg:B0 a
 ·rw [decide_eq_true hg,if_pos rfl,N2 hg]
  simp only [Option.bind_some]
  by_cases hx : ∃t,isT a t∧s.toList=txT a t
  ·obtain ⟨t,ht,e⟩:=hx
   have e1:=inv1 hg ht e
   have e2:=inv2 hg ht e
   subst e1
   subst e2
   have hb:(txT a w==s.toList)=true:=by rw [e];simp
   rw [decide_eq_true ht,decide_eq_true ⟨hg,ht⟩,if_pos rfl,if_pos rfl,Wh hg ht,Tv hg ht]
   simp only [Option.bind_some]
   rw [Nb,if_pos hb]
   refine ⟨_,rfl,rfl,by have:=ht.1;simp only;omega,fun _=>⟨hg,ht,by rw [es,e]⟩,fun t2 _ ht2 e2=> ?_⟩
   have e3:s.toList=txT a t2:=by rw [e2,Nb]
   rw [←inv2 hg ht2 e3]
  ·have no : ∀t,isT a t→¬(txT a t==s.toList)=true:=by
    intro t ht h
    exact hx ⟨t,ht,by simpa using (beq_iff_eq.1 h).symm⟩
   refine ⟨([],false),?_,?_,by simp,by simp,fun t2 _ ht2 e2=>absurd ⟨t2,ht2,by rw [e2,Nb]⟩ hx⟩
   ·by_cases hu:isT a u
    ·rw [decide_eq_true hu,if_pos rfl,Wh hg hu]
     simp only [Option.bind_some]
     rw [Nb,if_neg (no _ hu)]
    ·rw [decide_eq_false hu];rfl
   ·by_cases hu:isT a w
    ·rw [decide_eq_true ⟨hg,hu⟩,if_pos rfl,Tv hg hu]
     simp only [Option.bind_some]
     rw [Nb,if_neg (no _ hu)]
    ·rw [decide_eq_false (fun h=>hu h.2)];rfl
 ·rw [decide_eq_false hg,decide_eq_false (fun h=>hg h.1)]
  exact ⟨([],false),rfl,rfl,by simp,by simp,fun _ h=>absurd h hg⟩
def Pg:List Int→List Int→Int
 | x::s,y::t=>if x=y then Pg s t else if x<y then -1 else 1
 | _,_=>0
def S8 (s t:List Int):Int:=if s.length<t.length then -1 else if s.length>t.length then 1 else Pg s t
theorem Aj1 : ∀(s t:List Int),s.length=t.length→Pg t s = - Pg s t
 | [],[],_=>rfl
 | x::s,y::t,h=>by
   have ih:=Aj1 s t (by simpa using h)
   unfold Pg
   by_cases hxy:x=y
   ·rw [if_pos hxy,if_pos hxy.symm,ih]
   ·rw [if_neg hxy,if_neg (fun h=>hxy h.symm)]
    by_cases h1:x<y
    ·rw [if_pos h1,if_neg (by omega)];rfl
    ·rw [if_neg h1,if_pos (by omega)]
theorem Ald (s t:List Int):S8 t s = - S8 s t:=by
 unfold S8
 rcases Nat.lt_trichotomy s.length t.length with h | h | h
 ·rw [if_neg (by omega),if_pos (by omega),if_pos h];rfl
 ·rw [if_neg (by omega),if_neg (by omega),if_neg (by omega),if_neg (by omega),Aj1 _ _ h]
 ·rw [if_pos (by omega),if_neg (by omega),if_pos (by omega)]
theorem Ae3 (s t:List Int):Pg s t = -1∨Pg s t=0∨Pg s t=1:=by
 induction s generalizing t with
 | nil=>right;left;rfl
 | cons x s ih=>
   cases t with
   | nil=>right;left;rfl
   | cons y t=>
     unfold Pg
     split
     ·exact ih t
     ·split
      ·left;rfl
      ·right;right;rfl
theorem Abl {s t:List Int} (he:s.length=t.length) (hl:s.length≤1000):Ej s t=some (Pg s t):=by
 unfold Ej
 have key : ∀(k i:Nat),i+k=s.length→A7 (Bx s t) (i:Int)=some (if Pg (s.drop i) (t.drop i)=0 then .inr () else .inl (Pg (s.drop i) (t.drop i))):=by
  intro k
  induction k with
  | zero=>
    intro i hi
    refine Bg ?_
    unfold Bx
    rw [if_neg (by omega)]
    simp only [Option.bind_some]
    rw [List.drop_eq_nil_of_le (by omega)]
    rfl
  | succ k ih=>
    intro i hi
    rw [F6 (show i<s.length by omega),F6 (show i<t.length by omega)]
    by_cases hxy:nth s i=nth t i
    ·rw [C1 (s':=((i+1:Nat):Int)) (by
      unfold Bx
      rw [if_pos (by omega),if_pos (by omega)]
      simp only [Option.bind_some]
      rw [Ae (by omega),Ae (by omega),Int.toNat_natCast,if_neg (by simpa using hxy),Ae (by unfold InI;omega)]
      rfl),ih (i+1) (by omega)]
     simp only [Pg,if_pos hxy]
    ·refine Bg ?_
     unfold Bx
     rw [if_pos (by omega),if_pos (by omega)]
     simp only [Option.bind_some]
     rw [Ae (by omega),Ae (by omega),Int.toNat_natCast,if_pos (by simpa using hxy),Ae (by omega),Ae (by omega)]
     simp only [Pg,if_neg hxy]
     by_cases h1:nth s i<nth t i
     ·rw [if_pos h1,if_pos h1];rfl
     ·rw [if_neg h1,if_neg h1];rfl
 have k0:A7 (Bx s t) 0=_:=key s.length 0 (by omega)
 rw [k0]
 simp only [List.drop_zero,Option.bind_some]
 by_cases h0:Pg s t=0
 ·rw [if_pos h0,h0]
  dsimp only
  rw [if_neg (by omega),if_neg (by omega)]
 ·rw [if_neg h0]
theorem Abi {s t:List Int} (hl:s.length≤1000):Er s t=some (S8 s t):=by
 unfold Er S8
 by_cases h1:s.length<t.length
 ·rw [if_pos (by omega),if_pos h1]
 ·rw [if_neg (by omega),if_neg h1]
  by_cases h2:s.length>t.length
  ·rw [if_pos (by omega),if_pos h2]
  ·rw [if_neg (by omega),if_neg h2,Abl (by omega) hl];rfl
theorem Aqv {s t:List Int} (he:s.length=t.length) (hl:s.length≤1000):Im s t=some (decide (Pg s t = -1)):=by
 unfold Im
 have key : ∀(k i:Nat),i+k=s.length→A7 (C8 s t) (i:Int)=some (if Pg (s.drop i) (t.drop i)=0 then .inr () else .inl (decide (Pg (s.drop i) (t.drop i) = -1))):=by
  intro k
  induction k with
  | zero=>
    intro i hi
    refine Bg ?_
    unfold C8
    rw [if_neg (by omega)]
    rw [List.drop_eq_nil_of_le (by omega)]
    rfl
  | succ k ih=>
    intro i hi
    rw [F6 (show i<s.length by omega),F6 (show i<t.length by omega)]
    by_cases hxy:nth s i=nth t i
    ·rw [C1 (s':=((i+1:Nat):Int)) (by
      unfold C8
      rw [if_pos (by omega),Ae (by omega),Ae (by omega),Int.toNat_natCast,if_neg (by simpa using hxy),Ae (by unfold InI;omega)]
      rfl),ih (i+1) (by omega)]
     simp only [Pg,if_pos hxy]
    ·refine Bg ?_
     unfold C8
     rw [if_pos (by omega),Ae (by omega),Ae (by omega),Int.toNat_natCast,if_pos (by simpa using hxy),Ae (by omega),Ae (by omega)]
     simp only [Pg,if_neg hxy]
     by_cases h1:nth s i<nth t i
     ·rw [if_pos h1,decide_eq_true h1];rfl
     ·rw [if_neg h1,decide_eq_false h1];rfl
 have k0:A7 (C8 s t) 0=_:=key s.length 0 (by omega)
 rw [k0]
 simp only [List.drop_zero,Option.bind_some]
 by_cases h0:Pg s t=0
 ·rw [if_pos h0,h0];rfl
 ·rw [if_neg h0]
theorem Aa1 {s t:List Int} (hl:s.length≤1000):Fj s t=some (decide (S8 s t = -1)):=by
 unfold Fj S8
 by_cases h:s.length=t.length
 ·rw [if_neg (by omega),if_neg (by omega),if_neg (by omega),Aqv h hl];rfl
 ·rw [if_pos (by omega)]
  by_cases h1:s.length<t.length
  ·rw [if_pos h1,decide_eq_true (by omega)];rfl
  ·rw [if_neg h1,if_pos (by omega),decide_eq_false (by omega)];rfl
theorem Xo {a:SAlgebra} (hsm:N5 a) {s t:List Int}:Cy a s t=some (if B0 a∧isT a s∧isT a t then (S8 s t,true) else (0,false))∧Dr a s t=some (if B0 a∧isT a s∧isT a t then (S8 s t,true) else (0,false)):=by
 by_cases hG:B0 a∧isT a s∧isT a t
 ·rw [if_pos hG]
  obtain ⟨hg,hs,ht⟩:=hG
  have hl:=hs.1
  have hl2:=ht.1
  unfold Cy Dr
  rw [Py hsm,Jh hsm]
  simp only [Option.bind_some]
  rw [decide_eq_true ⟨hg,hs⟩,if_pos rfl,if_pos rfl,N2 hg,P7 hg]
  simp only [Option.bind_some]
  rw [decide_eq_true ht,if_pos rfl,if_pos rfl,Abi (by omega)]
  simp only [Option.bind_some]
  rw [Aa1 (by omega),Aa1 (by omega),Ald s t]
  simp only [Option.bind_some]
  refine ⟨trivial,?_⟩
  have hc:S8 s t = -1∨S8 s t=0∨S8 s t=1:=by
   unfold S8
   split
   ·exact .inl rfl
   ·split
    ·exact .inr (.inr rfl)
    ·exact Ae3 s t
  rcases hc with e | e | e<;>rw [e]<;>(first | rfl | simp)
 ·rw [if_neg hG]
  unfold Cy Dr
  rw [Py hsm,Jh hsm]
  simp only [Option.bind_some]
  by_cases h:B0 a∧isT a s
  ·have ht:¬isT a t:=fun ht=>hG ⟨h.1,h.2,ht⟩
   rw [decide_eq_true h,if_pos rfl,if_pos rfl,N2 h.1,P7 h.1]
   simp only [Option.bind_some]
   rw [decide_eq_false ht]
   exact ⟨rfl,rfl⟩
  ·rw [decide_eq_false h]
   exact ⟨rfl,rfl⟩
end Go.Proofs.YtbnoclklhcbidaaDoor.Ax
namespace Go.Proofs.YtbnoclklhcbidaaDoor.Ax
open Go Classical
def ixO:List Int→Int→Nat
 | [],_=>0
 | y::r,x=>if y=x then 0 else ixO r x+1
theorem Asq : ∀(o:List Int) (x:Int),ixO o x≤o.length
 | [],_=>Nat.le_refl _
 | y::r,x=>by
   unfold ixO
   have:=Asq r x
   split
   ·simp
   ·simp only [List.length_cons];omega
theorem Aee : ∀ {o:List Int} {x:Int},ixO o x<o.length↔x∈o
 | [],x=>by simp [ixO]
 | y::r,x=>by
   unfold ixO
   have ih:=@Aee r x
   by_cases h:y=x
   ·rw [if_pos h];simp [h]
   ·rw [if_neg h,List.mem_cons,or_iff_right (fun e=>h e.symm),←ih,List.length_cons];omega
theorem Apj : ∀ {o:List Int} {x:Int} (q:List Int),x∈o→ixO (o++q) x=ixO o x
 | [],x,q,h=>by cases h
 | y::r,x,q,h=>by
   show ixO (y::(r++q)) x=_
   unfold ixO
   by_cases e:y=x
   ·rw [if_pos e,if_pos e]
   ·rw [if_neg e,if_neg e,Apj q (by rcases List.mem_cons.1 h with h | h;exact absurd h.symm e;exact h)]
theorem Acs : ∀ {o:List Int} {x:Int},x∉o→ixO (o++[x]) x=o.length
 | [],x,_=>by simp [ixO]
 | y::r,x,h=>by
   show ixO (y::(r++[x])) x=_
   unfold ixO
   rw [if_neg (fun e=>h (by simp [e])),Acs (fun e=>h (by simp [e]))];rfl
def mpO:Nat→List Int→List (Int×Int)
 | _,[]=>[]
 | i,x::r=>(x,(i:Int))::mpO (i+1) r
theorem Aow : ∀(i:Nat) (o:List Int),(mpO i o).length=o.length
 | _,[]=>rfl
 | i,x::r=>by simp only [mpO,List.length_cons];rw [Aow (i+1) r]
theorem Acr : ∀(i:Nat) (o:List Int) (x:Int),Dv (mpO i o) x=if x∈o then some ((i+ixO o x:Nat):Int) else none
 | _,[],x=>by simp [mpO,Dv]
 | i,y::r,x=>by
   unfold mpO Dv ixO
   by_cases e:y=x
   ·rw [if_pos e.symm,if_pos (by simp [e]),if_pos e];rfl
   ·rw [if_neg (fun h=>e h.symm),if_neg e,Acr (i+1) r x]
    by_cases h:x∈r
    ·rw [if_pos h,if_pos (List.mem_cons_of_mem _ h)]
     congr 2;omega
    ·rw [if_neg h,if_neg (fun hh=>(List.mem_cons.1 hh).elim (fun u=>e u.symm) h)]
theorem Ao4 : ∀(i:Nat) (o:List Int) {x:Int},x∉o→G8 (mpO i o) x ((i+o.length:Nat):Int)=mpO i (o++[x])
 | i,[],x,_=>rfl
 | i,y::r,x,h=>by
   show G8 ((y,(i:Int))::mpO (i+1) r) x _=(y,(i:Int))::mpO (i+1) (r++[x])
   unfold G8
   rw [if_neg (fun e=>h (by simp [e])),←Ao4 (i+1) r (fun e=>h (by simp [e]))]
   congr 3;simp only [List.length_cons];omega
def nvO (o:List Int) (x:Int):List Int:=if x<0∨x∈o then o else o++[x]
def nvX (o:List Int) (x:Int):Int:=if x<0 then x else (ixO (nvO o x) x:Int)
def nvF:List Int→List Int→List Int
 | _,[]=>[]
 | o,x::r=>nvX o x::nvF (nvO o x) r
theorem Acq : ∀(o l:List Int),(nvF o l).length=l.length
 | _,[]=>rfl
 | o,x::r=>by simp only [nvF,List.length_cons];rw [Acq]
theorem Ao6 (o:List Int) (x:Int):(nvO o x).length≤o.length+1:=by unfold nvO;split<;>simp
theorem Aom {t:List Int} (hl:t.length≤60) : ∀(rest:List Int) (i:Nat) (o acc:List Int),t.drop i=rest→i+rest.length=t.length→acc.length=i→o.length≤i →
  A7 (Cp t) ((i:Int),acc,mpO 0 o)=some (acc++nvF o rest)
 | [],i,o,acc,hd,hi,ha,ho=>by
   simp only [List.length_nil] at hi
   refine Bg ?_
   unfold Cp
   dsimp only
   rw [if_neg (by omega)]
   simp [nvF]
 | x::r,i,o,acc,hd,hi,ha,ho=>by
   have hL:=Co
   simp only [List.length_cons] at hi
   have hlt:i<t.length:=by omega
   have hx:=F6 hlt
   rw [hd] at hx
   obtain ⟨h1,h2⟩:=List.cons.inj hx
   have hO:=Ao6 o x
   refine (C1 (s':=(((i+1:Nat):Int),acc++[nvX o x],mpO 0 (nvO o x))) ?_).trans ?_
   ·unfold Cp
    dsimp only
    rw [if_pos (by omega),Ae (by omega),Int.toNat_natCast,←h1]
    unfold nvX nvO
    by_cases c:x<0
    ·rw [if_pos c,Ae (by simp;omega),Ae (by unfold InI;omega),if_pos c,if_pos (.inl c)];rfl
    ·rw [if_neg c,if_neg c]
     by_cases hm:x∈o
     ·have hg:Dv (mpO 0 o) x=some ((ixO o x:Nat):Int):=by rw [Acr,if_pos hm];simp
      rw [hg,if_pos (by simp),Ae (by simp;omega),Ae (by unfold InI;omega),if_pos (.inr hm)];rfl
     ·have hg:Dv (mpO 0 o) x=none:=by rw [Acr,if_neg hm]
      have hs:G8 (mpO 0 o) x ((o.length:Nat):Int)=mpO 0 (o++[x]):=by
       have:=Ao4 0 o hm
       rwa [Nat.zero_add] at this
      have hg2:Dv (mpO 0 (o++[x])) x=some ((ixO (o++[x]) x:Nat):Int):=by rw [Acr,if_pos (by simp)];simp
      rw [hg,Aow,hs,hg2,if_neg (by simp),Ae (by simp;omega),Ae (by unfold InI;omega),if_neg (by simp [c,hm])];rfl
   ·rw [Aom hl r (i+1) (nvO o x) (acc++[nvX o x]) h2.symm (by omega) (by simp [ha]) (by omega)]
    simp [nvF]
theorem Aof {t:List Int} {i:Nat} (hi:i<t.length) {acc:List Int} : ∀(k j:Nat) {o:List Int},o.length≤60→j+k=o.length →
  A7 (Cd t (i:Int) acc o) (j:Int)=some ((j+ixO (o.drop j) (nth t i):Nat):Int)
 | 0,j,o,ho,h=>by
   refine Bg ?_
   unfold Cd
   rw [if_neg (by omega),List.drop_eq_nil_of_le (by omega)];rfl
 | k+1,j,o,ho,h=>by
   have hj:j<o.length:=by omega
   rw [F6 hj]
   unfold ixO
   by_cases e:nth o j=nth t i
   ·rw [if_pos e]
    refine Bg ?_
    unfold Cd
    rw [if_pos (by omega),Ae (by omega),Ae (by omega),Int.toNat_natCast,Int.toNat_natCast,if_neg (by simpa using e)];rfl
   ·rw [if_neg e]
    refine (C1 (s':=((j+1:Nat):Int)) ?_).trans ?_
    ·unfold Cd
     rw [if_pos (by omega),Ae (by omega),Ae (by omega),Int.toNat_natCast,Int.toNat_natCast,if_pos (by simpa using e),Ae (by unfold InI;omega)];rfl
    ·rw [Aof hi k (j+1) ho (by omega)]
     congr 2;omega
theorem Apd {t:List Int} (hl:t.length≤60) : ∀(rest:List Int) (i:Nat) (o acc:List Int),t.drop i=rest→i+rest.length=t.length→acc.length=i→o.length≤i →
  A7 (Cr t) ((i:Int),acc,o)=some (acc++nvF o rest)
 | [],i,o,acc,hd,hi,ha,ho=>by
   simp only [List.length_nil] at hi
   refine Bg ?_
   unfold Cr
   dsimp only
   rw [if_neg (by omega)]
   simp [nvF]
 | x::r,i,o,acc,hd,hi,ha,ho=>by
   have hL:=Co
   simp only [List.length_cons] at hi
   have hlt:i<t.length:=by omega
   have hx:=F6 hlt
   rw [hd] at hx
   obtain ⟨h1,h2⟩:=List.cons.inj hx
   have hO:=Ao6 o x
   refine (C1 (s':=(((i+1:Nat):Int),acc++[nvX o x],nvO o x)) ?_).trans ?_
   ·have ix:A7 (Cd t (i:Int) acc o) 0=some ((ixO o x:Nat):Int):=by
     have:=Aof hlt (acc:=acc) o.length 0 (o:=o) (by omega) (by omega)
     rw [List.drop_zero,←h1,Nat.zero_add] at this
     exact this
    unfold Cr
    dsimp only
    rw [if_pos (by omega),Ae (by omega),Int.toNat_natCast,←h1]
    unfold nvX nvO
    by_cases c:x<0
    ·rw [if_pos c,Ae (by omega),Ae (by simp;omega),Ae (by unfold InI;omega),if_pos c,if_pos (.inl c)];rfl
    ·rw [if_neg c,if_neg c,ix]
     simp only [Option.bind_some]
     by_cases hm:x∈o
     ·have:=Aee.2 hm
      rw [if_neg (by omega),Ae (by simp;omega),Ae (by unfold InI;omega),if_pos (.inr hm)];rfl
     ·have h3:=Asq o x
      have h4:¬ixO o x<o.length:=fun h=>hm (Aee.1 h)
      have h5:ixO o x=o.length:=by omega
      rw [if_pos (by omega),Ae (by omega),Ae (by simp;omega),Ae (by simp;omega),Ae (by unfold InI;omega),if_neg (by simp [c,hm]),Acs hm,h5];rfl
   ·rw [Apd hl r (i+1) (nvO o x) (acc++[nvX o x]) h2.symm (by omega) (by simp [ha]) (by omega)]
    simp [nvF]
theorem Aax {a:SAlgebra} (hsm:N5 a) {t:List Int}:Ee a t=some (if B0 a∧isT a t then (nvF [] t,true) else ([],false))∧Fm a t=some (if B0 a∧isT a t then (nvF [] t,true) else ([],false)):=by
 unfold Ee Fm
 rw [Py hsm,Jh hsm]
 simp only [Option.bind_some]
 by_cases h:B0 a∧isT a t
 ·have k1:A7 (Cp t) (0,A4 Int,A4 (Int×Int))=some (nvF [] t):=Aom h.2.1 t 0 [] [] (by simp) (by simp) rfl (by simp)
  have k2:A7 (Cr t) (0,A4 Int,A4 Int)=some (nvF [] t):=Apd h.2.1 t 0 [] [] (by simp) (by simp) rfl (by simp)
  rw [decide_eq_true h,if_pos rfl,if_pos rfl,if_pos h,k1,k2]
  exact ⟨rfl,rfl⟩
 ·rw [decide_eq_false h,if_neg h]
  exact ⟨rfl,rfl⟩
theorem Adh : ∀ {L M:List Int},L.Nodup→(∀r∈L,r∈M)→L.length≤M.length
 | [],_,_,_=>Nat.zero_le _
 | x::L,M,hd,h=>by
   have hx:x∈M:=h x (by simp)
   obtain ⟨p,q,rfl⟩:=List.append_of_mem hx
   have:=Adh (L:=L) (M:=p++q) (List.nodup_cons.1 hd).2 (fun r hr=>by
    have hr2:=h r (by simp [hr])
    have hne:r≠x:=fun e=>(List.nodup_cons.1 hd).1 (e▸hr)
    simp only [List.mem_append,List.mem_cons] at hr2 ⊢
    rcases hr2 with h | h | h
    ·exact .inl h
    ·exact absurd h hne
    ·exact .inr h)
   simp only [List.length_append,List.length_cons] at *;omega
theorem Avs {a:SAlgebra} : ∀ {l:List Int} {m:Nat} {o:List Int},WF a m l→o.Nodup→(∀z∈o,0≤z∧z<6)→WF a m (nvF o l)
 | [],m,o,h,_,_=>h
 | x::l,m,o,h,hn,ho=>by
   obtain ⟨k,rfl,hs,hw⟩:=WF.cons h
   show Sc a (nvX o x)∧WF a (nxT a k (nvX o x)) (nvF (nvO o x) l)
   have hO:(nvO o x).Nodup ∧ ∀z∈nvO o x,0≤z∧z<6:=by
    unfold nvO
    split
    ·exact ⟨hn,ho⟩
    ·rename_i c
     have c1:¬x<0:=fun h=>c (.inl h)
     have c2:x∉o:=fun h=>c (.inr h)
     refine ⟨?_,fun z hz=> ?_⟩
     ·rw [List.nodup_append]
      exact ⟨hn,by simp,fun u hu v hv=>by rw [List.mem_singleton] at hv;subst hv;exact fun e=>c2 (e▸hu)⟩
     ·rcases List.mem_append.1 hz with hz | hz
      ·exact ho z hz
      ·rw [List.mem_singleton] at hz;subst hz;exact ⟨by omega,hs.1⟩
   have ih:=Avs (l:=l) hw hO.1 hO.2
   by_cases c:x<0
   ·have e:nvX o x=x:=if_pos c
    rw [e];exact ⟨hs,ih⟩
   ·have e:nvX o x=(ixO (nvO o x) x:Int):=if_neg c
    have hm:x∈nvO o x:=by
     unfold nvO
     split
     ·rename_i h;exact h.resolve_left c
     ·simp
    have h1:=Aee.2 hm
    have h2:(nvO o x).length≤([0,1,2,3,4,5]:List Int).length:=Adh hO.1 (fun r hr=>by
     have:=hO.2 r hr
     simp only [List.mem_cons,List.not_mem_nil,or_false];omega)
    simp only [List.length_cons,List.length_nil] at h2
    rw [e]
    refine ⟨⟨by omega,by omega⟩,?_⟩
    have e1:nxT a k (ixO (nvO o x) x:Int)=nxT a k x:=by unfold nxT;rw [if_pos (by omega),if_pos (by omega)]
    rw [e1];exact ih
def upI (k:Nat):List Int:=(List.range k).map Int.ofNat
theorem Al0 (k:Nat):upI (k+1)=upI k++[(k:Int)]:=by unfold upI;rw [List.range_succ,List.map_append];rfl
theorem Aco {k:Nat} {x:Int}:x∈upI k↔0≤x∧x<(k:Int):=by
 unfold upI
 rw [List.mem_map]
 constructor
 ·rintro ⟨i,hi,rfl⟩
  have:=List.mem_range.1 hi
  show 0≤(i:Int)∧(i:Int)<k
  omega
 ·rintro ⟨h1,h2⟩
  exact ⟨x.toNat,List.mem_range.2 (by omega),Int.toNat_of_nonneg h1⟩
theorem Atr (k:Nat):(upI k).length=k:=by simp [upI]
theorem An6 : ∀ {k j:Nat},j<k→ixO (upI k) (j:Int)=j
 | 0,_,h=>by omega
 | k+1,j,h=>by
   rw [Al0]
   by_cases e:j<k
   ·rw [Apj _ (Aco.2 ⟨by omega,by omega⟩),An6 e]
   ·obtain rfl:j=k:=by omega
    rw [Acs (fun h=>by have:=Aco.1 h;omega),Atr]
theorem Apn : ∀(l o:List Int),nvF (upI o.length) (nvF o l)=nvF o l
 | [],_=>rfl
 | x::l,o=>by
   show nvX (upI o.length) (nvX o x)::nvF (nvO (upI o.length) (nvX o x)) (nvF (nvO o x) l)=nvX o x::nvF (nvO o x) l
   have ih:=Apn l (nvO o x)
   have key:nvX (upI o.length) (nvX o x)=nvX o x∧nvO (upI o.length) (nvX o x)=upI (nvO o x).length:=by
    by_cases c:x<0
    ·have e1:nvX o x=x:=if_pos c
     have e2:nvO o x=o:=if_pos (.inl c)
     rw [e1,e2]
     exact ⟨if_pos c,if_pos (.inl c)⟩
    ·have e1:nvX o x=(ixO (nvO o x) x:Int):=if_neg c
     rw [e1]
     by_cases hm:x∈o
     ·have e2:nvO o x=o:=if_pos (.inr hm)
      have h1:=Aee.2 hm
      have e3:nvO (upI o.length) (ixO o x:Int)=upI o.length:=if_pos (.inr (Aco.2 ⟨by omega,by omega⟩))
      rw [e2]
      refine ⟨?_,e3⟩
      unfold nvX
      rw [if_neg (by omega),e3,An6 h1]
     ·have e2:nvO o x=o++[x]:=if_neg (by simp [c,hm])
      have e4:ixO (o++[x]) x=o.length:=Acs hm
      have e3:nvO (upI o.length) (o.length:Int)=upI (o.length+1):=by
       unfold nvO
       rw [if_neg (by rintro (h | h);omega;have:=Aco.1 h;omega),Al0]
      rw [e2,e4]
      refine ⟨?_,by rw [e3];simp⟩
      unfold nvX
      rw [if_neg (by omega),e3,An6 (Nat.lt_succ_self _)]
   rw [key.1,key.2,ih]
theorem Ax6 (t:List Int):nvF [] (nvF [] t)=nvF [] t:=Apn t []
theorem Awi {a:SAlgebra} {t:List Int} (ht:isT a t):isT a (nvF [] t):=⟨by rw [Acq];exact ht.1,Avs ht.2 (by simp) (by simp)⟩
end Go.Proofs.YtbnoclklhcbidaaDoor.Ax
namespace Go.Proofs.YtbnoclklhcbidaaDoor.Ax
open Go Classical
theorem Alk {xs ys:List Int} (h:xs.length≤LIM):G0 xs ys=some (decide (xs=ys)):=by
 unfold G0
 rw [Co] at h
 by_cases hne:xs.length=ys.length
 ·rw [if_neg (by omega)]
  have this:=H6 (body:=C3 xs ys) (fun i=>(i:Int)) xs.length (fun i=>¬nth xs i=nth ys i) () () (fun i hi hb=>by
   unfold C3
   rw [if_pos (by omega),Ae (by omega),Ae (by omega)]
   simp only [Int.toNat_natCast]
   rw [if_neg (fun hc=>hc (Classical.not_not.1 hb).symm),Ae (by unfold InI;omega)];rfl) (fun i hi hb=>by
   unfold C3
   rw [if_pos (by omega),Ae (by omega),Ae (by omega)]
   simp only [Int.toNat_natCast]
   rw [if_pos (fun hc=>hb hc.symm)]) (by unfold C3;rw [if_neg (by omega)]) 0 (by omega)
  refine (Kx this false true).trans (congrArg some (Q1 ?_))
  rw [Lz]
  exact ⟨fun hh=>Api hne hh,fun hh i _=>by rw [hh]⟩
 ·rw [if_pos (by omega),decide_eq_false (fun hh=>hne (by rw [hh]))]
structure MInv (a:SAlgebra) (pat t:List Int) (i at':Nat) (m:List (List Int)):Prop where
 ip:i≤pat.length
 le:at'≤t.length
 len:m.length=6
 ok : ∀r∈m,r=[]∨isT a r
 used : ∀x∈pat.take i,0≤x→nth m x.toNat≠[]
 sub:Kf m (pat.take i)=t.take at'
theorem Ws {m m':List (List Int)} : ∀ {l:List Int},(∀x∈l,0≤x→nth m x.toNat=nth m' x.toNat)→Kf m l=Kf m' l
 | [],_=>rfl
 | x::l,h=>by
   rw [Ahh,Ahh,Ws (l:=l) (fun y hy=>h y (by simp [hy]))]
   by_cases c:x<0
   ·rw [if_pos c,if_pos c]
   ·rw [if_neg c,if_neg c,h x (by simp) (by omega)]
theorem Aks {α:Type} [Inhabited α] {m:List α} {i:Nat}:m.set i (nth m i)=m:=by
 by_cases h:i<m.length
 ·rw [Mc h];exact List.set_getElem_self h
 ·exact List.set_eq_of_length_le (by omega)
section
variable {a:SAlgebra} {pat t:List Int}
theorem Auu (hg:B0 a) (hp:isT a pat) (ht:isT a t) {i at':Nat} {m:List (List Int)} (h:MInv a pat t i at' m) (hi:i<pat.length) :
  (B5 a pat t ((i:Int),(at':Int),m)=some (.inr (.inl ()))∧Cj a pat t ((i:Int),(at':Int),m)=some (.inr (.inl ())))
  ∨ ∃at2 m2,B5 a pat t ((i:Int),(at':Int),m)=some (.inl (((i+1:Nat):Int),((at2:Nat):Int),m2))∧Cj a pat t ((i:Int),(at':Int),m)=some (.inl (((i+1:Nat):Int),((at2:Nat):Int),m2))∧MInv a pat t (i+1) at2 m2:=by
 have hL:=Co
 have hpl:=hp.1
 have htl:=ht.1
 have hle:=h.le
 have hlen:=h.len
 have hx6:nth pat i<6:=Xt hp _ (Cf hi)
 unfold B5 Cj
 dsimp only
 have cI:(i:Int)<(pat.length:Int):=by omega
 have c5:(0:Int)≤(i:Int)∧(i:Int)<(pat.length:Int):=by omega
 rw [if_pos cI,if_pos cI,Ae c5,Int.toNat_natCast]
 by_cases hat:at'<t.length
 ·have cA:¬((at':Int)≥(t.length:Int)):=by omega
  have cB:(0:Int)≤(at':Int)∧(at':Int)<(t.length:Int):=by omega
  rw [if_neg cA,if_neg cA,Ae c5]
  by_cases hx:nth pat i<0
  ·rw [if_pos hx,if_pos hx,Ae cB,Ae cB,Ae c5,Int.toNat_natCast]
   by_cases he:nth t at'=nth pat i
   ·right
    refine ⟨at'+1,m,?_,?_,by omega,by omega,hlen,h.ok,?_,?_⟩
    ·rw [if_neg (by simpa using he),Ae (by unfold InI;omega),Ae (by unfold InI;omega)];rfl
    ·rw [if_neg (by simpa using he),Ae (by unfold InI;omega),Ae (by unfold InI;omega)];rfl
    ·intro x hxm h0
     rw [Jx hi] at hxm
     rcases List.mem_append.1 hxm with hxm | hxm
     ·exact h.used x hxm h0
     ·rw [List.mem_singleton] at hxm;omega
    ·rw [T7 hi,if_pos hx,h.sub,Jx hat,he]
   ·left
    rw [if_pos he]
    exact ⟨rfl,rfl⟩
  ·obtain ⟨p,q,k,hpl2⟩:=Asa ht.2 hat
   obtain ⟨hq1,hq2⟩:=hpl2.len
   have hpart:=hpl2.part.1
   have hpne:p≠[]:=fun e=>by rw [e] at hq2;simp at hq2
   have hpT:isT a p:=⟨by omega,hpl2.one⟩
   have inv:nth m (nth pat i).toNat=[]∨nth m (nth pat i).toNat=p→MInv a pat t (i+1) (at'+p.length) (m.set (nth pat i).toNat p):=by
    intro hor
    have hget : ∀y:Int,0≤y→y<6→nth (m.set (nth pat i).toNat p) y.toNat=if (nth pat i).toNat=y.toNat then p else nth m y.toNat:=fun y h0 h6=>Ah7 _ _ _ _ (by omega)
    refine ⟨by omega,by omega,by rw [List.length_set];exact hlen,?_,?_,?_⟩
    ·intro r hr
     rcases List.mem_or_eq_of_mem_set hr with hr | rfl
     ·exact h.ok r hr
     ·exact .inr hpT
    ·intro x hxm h0
     have h6:=Xt hp x (List.mem_of_mem_take hxm)
     rw [hget x h0 (by omega)]
     split
     ·exact hpne
     ·rename_i hne
      rw [Jx hi] at hxm
      rcases List.mem_append.1 hxm with hxm | hxm
      ·exact h.used x hxm h0
      ·rw [List.mem_singleton] at hxm;rw [hxm] at hne;exact absurd rfl hne
    ·rw [T7 hi,if_neg hx,hget _ (by omega) hx6,if_pos rfl,←Ws (m:=m) (fun y hy h0=>by
      have h6:=Xt hp y (List.mem_of_mem_take hy)
      rw [hget y h0 (by omega)]
      split
      ·rename_i e
       have hne:=h.used y hy h0
       rw [e] at hor
       rcases hor with h | h
       ·exact absurd h hne
       ·exact h
      ·rfl),h.sub,List.take_add,hpl2.eq]
     simp
   rw [if_neg hx,if_neg hx,Apf hg (by omega) (by omega),Ain hg (by omega) (by omega),hpl2.endA]
   simp only [Option.bind_some,Int.toNat_natCast]
   rw [hpart,Asz (by omega),Asx (by omega)]
   simp only [Option.bind_some]
   have hs1:(nth m (nth pat i).toNat).length≤LIM:=by
    rcases h.ok _ (Cf (show (nth pat i).toNat<m.length by omega)) with e | e
    ·rw [e];simp
    ·have:=e.1;omega
   rw [Alk hs1,Aso hs1]
   simp only [Option.bind_some]
   have c1:(0:Int)≤nth pat i∧nth pat i<(m.length:Int):=by omega
   have c2:(0:Int)≤(at':Int)∧(at':Int)≤((at'+p.length:Nat):Int)∧((at'+p.length:Nat):Int)≤((t.length:Nat):Int):=by omega
   have c3:InI ((i:Int)+1):=by unfold InI;omega
   have c4:InI ((at':Int)+(p.length:Int)):=by unfold InI;omega
   simp only [Ae c1,Ae c2,Ae c3,Ae c4,Ae c5,Ae hpne]
   by_cases he:nth m (nth pat i).toNat=[]
   ·right
    refine ⟨at'+p.length,m.set (nth pat i).toNat p,?_,?_,inv (.inl he)⟩
    ·rw [if_pos he];rfl
    ·rw [if_neg (by rw [he];simp)];rfl
   ·have hlp:((nth m (nth pat i).toNat).length:Int)>0:=by have:=List.length_pos_iff.2 he;omega
    rw [if_neg he,if_pos hlp]
    by_cases hs:nth m (nth pat i).toNat=p
    ·right
     refine ⟨at'+p.length,m.set (nth pat i).toNat p,?_,?_,inv (.inr hs)⟩
     ·rw [decide_eq_true hs,if_pos rfl]
      rw [show m.set (nth pat i).toNat p=m by rw [←hs];exact Aks];rfl
     ·rw [decide_eq_true hs,if_pos rfl];rfl
    ·left
     rw [decide_eq_false hs]
     exact ⟨rfl,rfl⟩
 ·left
  have cA:(at':Int)≥(t.length:Int):=by omega
  rw [if_pos cA,if_pos cA]
  exact ⟨rfl,rfl⟩
theorem Ape (hg:B0 a) (hp:isT a pat) (ht:isT a t) : ∀(k i at':Nat) (m:List (List Int)),i+k=pat.length→MInv a pat t i at' m →
  ∃o,A7 (B5 a pat t) ((i:Int),(at':Int),m)=some o∧A7 (Cj a pat t) ((i:Int),(at':Int),m)=some o∧(o = .inl () ∨ ∃at2 m2,o = .inr (((at2:Nat):Int),m2)∧MInv a pat t pat.length at2 m2)
 | 0,i,at',m,hk,h=>by
   obtain rfl:i=pat.length:=by omega
   refine ⟨.inr ((at':Int),m),Bg ?_,Bg ?_,.inr ⟨at',m,rfl,h⟩⟩
   ·unfold B5
    dsimp only
    rw [if_neg (by omega)]
   ·unfold Cj
    dsimp only
    rw [if_neg (by omega)]
 | k+1,i,at',m,hk,h=>by
   rcases Auu hg hp ht h (by omega) with ⟨e1,e2⟩ | ⟨at2,m2,e1,e2,h2⟩
   ·exact ⟨_,Bg e1,Bg e2,.inl rfl⟩
   ·rw [C1 e1,C1 e2]
    exact Ape hg hp ht k (i+1) at2 m2 (by omega) h2
theorem An9 (hg:B0 a) (hp:isT a pat) (ht:isT a t) : ∃r,F3 a pat t=some r∧Hi a pat t=some r∧(r.2=true→MInv a pat t pat.length t.length r.1):=by
 have hL:=Co
 have h0:MInv a pat t 0 0 (List.replicate 6 []):=⟨by omega,by omega,by simp,fun r hr=> .inl (List.eq_of_mem_replicate hr),by simp,by simp [Kf]⟩
 obtain ⟨o,e1,e2,ho⟩:=Ape hg hp ht pat.length 0 0 _ (by omega) h0
 have e3:A7 (Df a pat t) (0,A4 (List Int))=some (List.replicate 6 []):=by
  have:=Np (body:=Df a pat t) (fun i=>((i:Int),List.replicate i [])) 6 (List.replicate 6 []) (fun i hi=>by
   unfold Df
   dsimp only
   rw [if_pos (by omega),Ae (by simp;omega),Ae (by unfold InI;omega),List.replicate_succ']
   rfl) (by
   unfold Df
   dsimp only
   rw [if_neg (by omega)])
  exact this
 have e1':A7 (B5 a pat t) (0,0,List.replicate (Int.toNat (6:Int)) (A4 Int))=some o:=e1
 have e2':A7 (Cj a pat t) (0,0,List.replicate 6 [])=some o:=e2
 unfold F3 Hi
 rw [e1',e3]
 simp only [Option.bind_some]
 rw [e2']
 simp only [Option.bind_some]
 rcases ho with rfl | ⟨at2,m2,rfl,hm⟩
 ·exact ⟨_,rfl,rfl,by simp⟩
 ·refine ⟨_,rfl,rfl,fun hh=> ?_⟩
  have:=eq_of_beq hh
  obtain rfl:at2=t.length:=by omega
  exact hm
theorem Ajn {m:List (List Int)} (hm:m.length=6) : ∃q,A7 (Dp ((m.length:Nat):Int)) (0,m.map fun x=>(false,x))=some q∧(∀e∈q,e.1=true∨e.2≠[])∧q.map (·.2)=m:=by
 obtain ⟨q,e,hq⟩:=F8 (body:=Dp ((m.length:Nat):Int)) (fun s => ∃i:Nat,s.1=(i:Int)∧i≤m.length∧s.2.length=m.length∧s.2.map (·.2)=m ∧ ∀j,j<m.length→(j<i→(nth s.2 j).1=true∨(nth s.2 j).2≠[])∧(i≤j→(nth s.2 j).1=false)) (fun s=>m.length-s.1.toNat)
  (fun q=>(∀e∈q,e.1=true∨e.2≠[])∧q.map (·.2)=m) (fun s hs=>by
  obtain ⟨x,q⟩:=s
  obtain ⟨i,rfl,hi,hl,hmap,hj⟩:=hs
  dsimp only at hi hl hmap hj ⊢
  unfold Dp
  dsimp only
  by_cases hlt:i<m.length
  ·rw [if_pos (by omega),Ae (by omega),Int.toNat_natCast]
   by_cases hz:nth q i=(false,[])
   ·rw [if_pos hz,Ae (by omega),Ae (by unfold InI;omega)]
    refine .inl ⟨_,rfl,⟨i+1,rfl,by omega,by simp [hl],?_,?_⟩,by dsimp only;omega⟩
    ·rw [List.map_set]
     have e:nth (q.map (·.2)) i=[]:=by rw [Sy _ (by omega),hz]
     rw [←e,Aks,hmap]
    ·intro j hj1
     rw [Ah7 _ _ _ _ (by omega)]
     split
     ·exact ⟨fun _=> .inl rfl,fun _=>by omega⟩
     ·exact ⟨fun _=>(hj j hj1).1 (by omega),fun _=>(hj j hj1).2 (by omega)⟩
   ·have hf:=(hj i hlt).2 (Nat.le_refl _)
    have hne:(nth q i).2≠[]:=fun h2=>hz (Prod.ext hf h2)
    rw [if_neg hz,Ae hne,Ae (by unfold InI;omega)]
    refine .inl ⟨_,rfl,⟨i+1,rfl,by omega,hl,hmap,fun j hj1=>⟨fun h2=> ?_,fun h2=>(hj j hj1).2 (by omega)⟩⟩,by dsimp only;omega⟩
    by_cases e:j=i
    ·rw [e];exact .inr hne
    ·exact (hj j hj1).1 (by omega)
  ·rw [if_neg (by omega)]
   refine .inr ⟨_,rfl,fun e he=> ?_,hmap⟩
   obtain ⟨j,hj1,rfl⟩:=Ow.1 he
   have:=congrArg List.length hmap
   simp at this
   exact (hj j (by omega)).1 (by omega)) (s:=(0,m.map fun x=>(false,x))) ⟨0,rfl,by omega,by simp,by simp [Function.comp_def],fun j hj=>⟨fun h=>by omega,fun _=>by rw [Sy _ hj]⟩⟩
 exact ⟨q,e,hq.1,hq.2⟩
end
end Go.Proofs.YtbnoclklhcbidaaDoor.Ax
namespace Go.Proofs.YtbnoclklhcbidaaDoor.Ax
open Go Classical
theorem Aj9 {a:SAlgebra} {t:List Int} (ht:isT a t):(mkB (txT a t)).size≤400:=by
 have h1:=Yy (a:=a) t
 rw [Acw ht.2] at h1
 have:=ht.1
 simp only [W1] at h1
 rw [Be];omega
theorem Akd {c:Sl1Cur} {k:Nat} (h:Cur k c) (hk:k≤900000000-10) {t w:ByteArray} (hs:t.size≤400) (hw:w.size=9) : ∃r d,Do c t w=some (r,d)∧r.size≤409:=by
 unfold Do
 by_cases h0:(t.toList==(ByteArray.mk #[]).toList)=true
 ·rw [if_pos h0,Ae (by omega)]
  refine ⟨_,_,rfl,?_⟩
  rw [ByteArray.size_extract];omega
 ·rw [if_neg h0]
  have hp:0<t.size:=by
   rcases Nat.eq_zero_or_pos t.size with e | e
   ·refine absurd ?_ h0
    have:t.toList=[]:=List.length_eq_zero_iff.1 (by rw [ByteArray.toList_eq,Array.length_toList];exact e)
    rw [this,ByteArray.toList_eq];rfl
   ·exact e
  obtain ⟨r3,d3,e3,hd3,a1,a2⟩:=D4 h (by omega) (t.size:Int)
  rw [e3]
  simp only [Option.bind_some]
  obtain ⟨r5,d5,e5,hd5,b1,b2⟩:=D4 hd3 (by omega) (w.size:Int)
  rw [e5]
  simp only [Option.bind_some]
  rw [Ae (by omega),Ae (by rw [ByteArray.size_extract];omega)]
  obtain ⟨r9,d9,e9,hd9,c1,c2⟩:=D4 hd5 (by omega) 3
  rw [e9]
  simp only [Option.bind_some]
  by_cases z0:r9=0
  ·rw [if_pos z0,Ae (by omega),Ae (by simp only [ByteArray.size_extract];omega),Ae (by omega),Ae (by simp only [ByteArray.size_append,ByteArray.size_extract];omega)]
   refine ⟨_,_,rfl,?_⟩
   simp only [ByteArray.size_append,ByteArray.size_extract];omega
  ·rw [if_neg z0]
   by_cases z1:r9=1
   ·rw [if_pos z1,Ae (by omega),Ae (by simp only [ByteArray.size_extract];omega),Ae (by unfold InI;omega),Ae (by omega),Ae (by simp only [ByteArray.size_append,ByteArray.size_extract];omega)]
    refine ⟨_,_,rfl,?_⟩
    simp only [ByteArray.size_append,ByteArray.size_extract];omega
   ·rw [if_neg z1,Ae (by omega),Ae (by unfold InI;omega),Ae (by omega),Ae (by simp only [ByteArray.size_extract];omega)]
    refine ⟨_,_,rfl,?_⟩
    simp only [ByteArray.size_append,ByteArray.size_extract];omega
section
variable {code:List Int} (hc : ∀x∈code,0≤x∧x≤255) (hl:code.length≤65536)
include hc hl
theorem Afn : ∃a t,Ep code=some (a,t)∧Lu a∧t.length≤41:=by
 unfold Ep Hb
 obtain ⟨a,d,e,hd,ha⟩:=M3 (Acj hc hl) (by omega)
 rw [e]
 simp only [Option.bind_some]
 obtain ⟨t,d2,e2,hd2,ht⟩:=Je hd (by omega) ha
 rw [e2]
 exact ⟨_,_,rfl,ha,ht⟩
theorem Xx : ∃a s t,C9 code=some (a,s,t)∧Lu a:=by
 unfold C9
 obtain ⟨a,d,e,hd,ha⟩:=M3 (Acj hc hl) (by omega)
 rw [e]
 simp only [Option.bind_some]
 obtain ⟨s,d2,e2,hd2,hs⟩:=Je hd (by omega) ha
 rw [e2]
 simp only [Option.bind_some]
 obtain ⟨t,d3,e3,hd3,ht⟩:=Je hd2 (by omega) ha
 rw [e3]
 exact ⟨_,_,_,rfl,ha⟩
theorem Ac9 : ∃a s t,Eb code=some (a,s,t)∧Lu a:=by
 unfold Eb
 obtain ⟨a,d,e,hd,ha⟩:=M3 (Acj hc hl) (by omega)
 rw [e]
 simp only [Option.bind_some]
 obtain ⟨s,d2,e2,hd2,hs⟩:=Je hd (by omega) ha
 rw [e2]
 simp only [Option.bind_some]
 obtain ⟨ts,d3,e3,hd3,h1,h2⟩:=Alv hd2 (by omega) ha
 rw [e3]
 simp only [Option.bind_some]
 rw [(Rp (Hg ha) (t:=s) (ts:=ts) (by omega)).2]
 simp only [Option.bind_some]
 by_cases hr:(Amv a s ts).2=true
 ·rw [if_pos hr]
  obtain ⟨b,d4,e4,hd4⟩:=Tj hd3 (by omega) 3
  rw [e4]
  simp only [Option.bind_some]
  by_cases hb:b=true
  ·rw [if_pos hb]
   simp only [Option.bind_some]
   obtain ⟨t,d5,e5,hd5,ht⟩:=Je hd4 (by omega) ha
   rw [e5]
   exact ⟨_,_,_,rfl,ha⟩
  ·rw [if_neg hb]
   exact ⟨_,_,_,rfl,ha⟩
 ·rw [if_neg hr]
  simp only [Option.bind_some]
  obtain ⟨t,d5,e5,hd5,ht⟩:=Je hd3 (by omega) ha
  rw [e5]
  exact ⟨_,_,_,rfl,ha⟩
theorem Adx : ∃a s,Ea code=some (a,s)∧Lu a∧s.size≤409:=by
 unfold Ea
 obtain ⟨a,d,e,hd,ha⟩:=M3 (Acj hc hl) (by omega)
 rw [e]
 simp only [Option.bind_some]
 obtain ⟨t,d2,e2,hd2,ht⟩:=Je hd (by omega) ha
 rw [e2]
 simp only [Option.bind_some]
 rw [Jh (Hg ha)]
 simp only [Option.bind_some]
 have last : ∀s:ByteArray,s.size≤400 → ∃a' r,((Cg d2 4).bind fun (r9,u10)=>if r9=true then (Do u10 s (ByteArray.mk #[120,102,48,49,50,57,40,44,41])).bind fun (r12,u13)=>some (a,r12) else some (a,s))=some (a',r)∧Lu a'∧r.size≤409:=by
  intro s hs
  obtain ⟨b,d4,e4,hd4⟩:=Tj hd2 (by omega) 4
  rw [e4]
  simp only [Option.bind_some]
  by_cases hb:b=true
  ·rw [if_pos hb]
   obtain ⟨r,d5,e5,h5⟩:=Akd hd4 (by omega) hs (w:=ByteArray.mk #[120,102,48,49,50,57,40,44,41]) rfl
   rw [e5]
   exact ⟨_,_,rfl,ha,h5⟩
  ·rw [if_neg hb]
   exact ⟨_,_,rfl,ha,by omega⟩
 by_cases h:B0 a∧isT a t
 ·rw [decide_eq_true h,if_pos rfl,Tv h.1 h.2]
  exact last _ (Aj9 h.2)
 ·rw [decide_eq_false h]
  exact last (ByteArray.mk #[120,48]) (by show 2≤400;omega)
end
section
variable {a:SAlgebra} {pat t:List Int}
theorem Anj (hsm:N5 a) : ∃r,F5 a pat t=some r∧Gf a pat t=some r∧r.1.length≤6∧(∀u∈r.1,u.length≤60)∧(r.2=true→B0 a∧isT a pat∧isT a t∧MInv a pat t pat.length t.length r.1):=by
 unfold F5 Gf
 rw [Py hsm,Jh hsm]
 simp only [Option.bind_some]
 by_cases h:B0 a∧isT a pat
 ·rw [decide_eq_true h,if_pos rfl,if_pos rfl,N2 h.1,P7 h.1]
  simp only [Option.bind_some]
  by_cases ht:isT a t
  ·rw [decide_eq_true ht,if_pos rfl]
   simp only [Option.bind_some]
   obtain ⟨⟨m,b⟩,e1,e2,hr⟩:=An9 h.1 h.2 ht
   rw [e1,e2]
   simp only [Option.bind_some]
   by_cases hb:b=true
   ·have hm:=hr hb
    obtain ⟨q,e3,e4,e5⟩:=Ajn hm.len
    rw [if_pos hb,if_pos hb,e3]
    simp only [Option.bind_some]
    rw [Ae e4,e5]
    refine ⟨_,rfl,rfl,by have:=hm.len;dsimp only at this ⊢;omega,fun u hu=> ?_,fun _=>⟨h.1,h.2,ht,hm⟩⟩
    rcases hm.ok u hu with rfl | hu
    ·simp
    ·exact hu.1
   ·rw [if_neg hb,if_neg hb]
    exact ⟨_,rfl,rfl,by simp,by simp,by simp⟩
  ·rw [decide_eq_false ht]
   exact ⟨_,rfl,rfl,by simp,by simp,by simp⟩
 ·rw [decide_eq_false h]
  exact ⟨_,rfl,rfl,by simp,by simp,by simp⟩
def fuF (m:List (List Int)):List (List Int):=(List.range m.length).map fun j=>if nth m j=[] then [(j:Int)] else nth m j
theorem T6 (m:List (List Int)):(fuF m).length=m.length:=by simp [fuF]
theorem Aiu {m:List (List Int)} {j:Nat} (h:j<m.length):nth (fuF m) j=if nth m j=[] then [(j:Int)] else nth m j:=by
 unfold fuF
 have e:nth (List.range m.length) j=j:=by rw [Mc (by simpa using h),List.getElem_range]
 rw [Sy _ (by simpa using h),e]
theorem Axe (hg:B0 a) (hp:isT a pat) (ht:isT a t) {m:List (List Int)} (h:MInv a pat t pat.length t.length m):Amv a pat (fuF m)=(t,true):=by
 have hlen:=h.len
 have hT : ∀r∈fuF m,isT a r:=by
  intro r hr
  obtain ⟨j,hj,rfl⟩:=Ow.1 hr
  rw [T6] at hj
  rw [Aiu hj]
  split
  ·refine ⟨by simp,?_⟩
   show Sc a (j:Int)∧WF a (nxT a 0 (j:Int)) []
   refine ⟨⟨by omega,by omega⟩,WF.nil.2 ?_⟩
   unfold nxT
   rw [if_pos (by omega)]
  ·rename_i hne
   exact (h.ok _ (Cf hj)).resolve_left hne
 have hs:Kf (fuF m) pat=t:=by
  have h1:=h.sub
  rw [List.take_length,List.take_length] at h1
  rw [←h1]
  refine Ws fun x hx h0=> ?_
  have h6:=Xt hp x hx
  have hu:=h.used x (by rw [List.take_length];exact hx) h0
  rw [Aiu (by omega),if_neg hu]
 have hv : ∀x∈pat,x<((fuF m).length:Int):=fun x hx=>by have:=Xt hp x hx;rw [T6];omega
 unfold Amv
 rw [if_pos ⟨hg,hp,by rw [T6];omega,hT,hv,by rw [hs];exact ht.1⟩,hs]
end
end Go.Proofs.YtbnoclklhcbidaaDoor.Ax
