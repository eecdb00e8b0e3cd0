/-
 Plain facts, joined.
-/
import Derived.Test.YtmkgjnphianalaaPA
namespace Go.Proofs.Ytmkgjnphianalaa.Ax
open Go Classical
theorem Awq {n:Nat} (h:n≤20):(2:Nat)^n≤1048576:=by
 have:(2:Nat)^n≤2^20:=Nat.pow_le_pow_right (by omega) h
 omega
theorem A4s {n:Nat} (h:n≤20):A0d 1 (n:Int)=((2^n:Nat):Int):=by
 have h1:=Awq h
 have e:min ((n:Int)).toNat IntKind.i64.bits=n:=by
  have:IntKind.i64.bits=64:=rfl
  rw [this,Int.toNat_natCast];omega
 unfold A0d
 rw [e,Int.one_mul,show ((2:Int)^n)=((2^n:Nat):Int) by simp]
 generalize 2^n=q at h1 ⊢
 exact Q8 (by omega) (by omega)
theorem Ayd (m:Nat) {x:Nat} (h:x≤20):Axk (m:Int) (x:Int)=((m/2^x:Nat):Int):=by
 have e:min ((x:Int)).toNat IntKind.i64.bits=x:=by
  have:IntKind.i64.bits=64:=rfl
  rw [this,Int.toNat_natCast];omega
 unfold Axk
 rw [e,Int.fdiv_eq_ediv_of_nonneg _ (Int.pow_nonneg (by omega)),show ((2:Int)^x)=((2^x:Nat):Int) by simp]
 rfl
theorem A3z {m:Nat} (h:m≤1048576):Ay9 (m:Int) 1=((m%2:Nat):Int):=by
 unfold Ay9
 have e:(BitVec.ofInt IntKind.i64.bits (m:Int) &&& BitVec.ofInt IntKind.i64.bits 1).toNat=m%2:=by
  have hb:IntKind.i64.bits=64:=rfl
  rw [hb,BitVec.toNat_and,BitVec.toNat_ofInt,BitVec.toNat_ofInt]
  have e1:((m:Int)%((2^64:Nat):Int)).toNat=m:=by omega
  have e2:((1:Int)%((2^64:Nat):Int)).toNat=1:=by decide
  rw [e1,e2,Nat.and_one_is_mod]
 rw [e]
 exact Q8 (by omega) (by omega)
def Y7 (m i:Nat):Bool:=decide (m/2^i%2=1)
theorem Axf {q:Nat→Bool} {i:Nat} : ∀ {n:Nat},i≤n→(∀j,i≤j→j<n→q j=false)→Cj n q=Cj i q:=by
 intro n
 induction n with
 | zero => intro h _;have:i=0:=by omega
           subst this;rfl
 | succ n ih=>
   intro h hq
   by_cases hi:i=n+1
   ·subst hi;rfl
   ·rw [Fo,hq n (by omega) (by omega),if_neg (by simp)]
    exact ih (by omega) fun j h1 h2=>hq j h1 (by omega)
theorem A09 {m i j:Nat} (h:m/2^i=0) (hj:i≤j):Y7 m j=false:=by
 have h1:m<2^i:=by
  rcases Nat.lt_or_ge m (2^i) with h1 | h1
  ·exact h1
  ·have:=Nat.div_pos h1 (Nat.pow_pos (by omega));omega
 have h2:(2:Nat)^i≤2^j:=Nat.pow_le_pow_right (by omega) hj
 unfold Y7
 rw [Nat.div_eq_of_lt (by omega)];simp
theorem Azq {body:(Int×List Int)→Option ((Int×List Int) ⊕ List Int)} {m n:Nat} (hm:m<2^n)
  (h0 : ∀(i:Nat) acc,i≤n→m/2^i=0→body ((i:Int),acc)=some (.inr acc))
  (h1 : ∀(i:Nat) acc,i<n→acc.length≤i→¬m/2^i=0→body ((i:Int),acc)=some (.inl (((i+1:Nat):Int),if Y7 m i then acc++[(i:Int)] else acc))):Al body (0,Ao Int)=some (Cj n (Y7 m)):=by
 have e0:((0:Int),Ao Int)=(((0:Nat):Int),Cj 0 (Y7 m)):=rfl
 rw [e0]
 rcases Aav (body:=body) (fun i=>((i:Int),Cj i (Y7 m))) n (fun i=>m/2^i=0) (fun i=>Cj i (Y7 m)) (Cj n (Y7 m)) (fun i hi hh=>by
   rw [h1 i _ hi (Re _ _) hh,Fo]) (fun i hi hh=>h0 i _ (by omega) hh) (h0 n _ (Nat.le_refl _) (Nat.div_eq_of_lt hm)) with ⟨i,hi,hh,_,e⟩ | ⟨_,e⟩
 ·rw [e,Axf (q:=Y7 m) (n:=n) (by omega) fun j hj _=>A09 hh hj]
 ·exact e
theorem A6a (m i:Nat):m/2^i≤m:=Nat.div_le_self _ _
theorem A1x {m n:Nat} (hn:n≤20) (hm:m<2^n):Ky (m:Int)=some (Cj n (Y7 m)):=by
 unfold Ky
 have hp:=Awq hn
 rw [Azq (body:=F4 (m:Int)) hm (fun i acc hi hh=>by
  unfold F4
  dsimp only
  rw [Af (by omega),Ayd m (by omega),hh,if_neg (by omega)]) (fun i acc hi ha hh=>by
  unfold F4 Y7
  dsimp only
  have hd:=A6a m i
  rw [Af (by omega),Ayd m (by omega)]
  generalize m/2^i=q at *
  rw [if_pos (by omega),Af (by omega),A3z (by omega)]
  by_cases hb:q%2=1
  ·rw [if_pos (by omega),Af (by rw [Ay];simp;omega),Af (by unfold InI;omega),decide_eq_true hb,if_pos rfl];rfl
  ·rw [if_neg (by omega),Af (by unfold InI;omega),decide_eq_false hb,if_neg (by simp)];rfl)]
 rfl
def A7w (a b:List Int):Prop := ∃i,i<a.length∧(∀j,j<i→nth a j=nth b j)∧nth a i<nth b i
theorem A26 {a b:List Int} (hl:a.length=b.length) (h:a.length≤LIM):Kv a b=some (decide (A7w a b)):=by
 unfold Kv
 rw [Ay] at h
 rw [show ((0:Int))=(((0:Nat)):Int) from rfl]
 rcases Aav (body:=E2 a b) (fun i=>(i:Int)) a.length (fun i=>nth a i≠nth b i) (fun i=> .inl (decide (nth a i<nth b i))) (.inr ()) (fun i hi hh=>by
   unfold E2
   rw [if_pos (by omega),Af (by omega),Af (by omega),Int.toNat_natCast,if_neg hh,Af (by unfold InI;omega)];rfl) (fun i hi hh=>by
   unfold E2
   rw [if_pos (by omega),Af (by omega),Af (by omega),Int.toNat_natCast,if_pos hh,Af (by omega),Af (by omega)]) (by
   unfold E2
   rw [if_neg (by omega)]) with ⟨i,hi,hh,hf,e⟩ | ⟨hn,e⟩
 ·rw [e]
  simp only [Option.bind_some]
  congr 1
  rw [decide_eq_decide]
  constructor
  ·intro hlt
   exact ⟨i,hi,fun j hj=>Classical.not_not.1 (hf j hj),hlt⟩
  ·rintro ⟨k,hk,h1,h2⟩
   rcases Nat.lt_trichotomy k i with hki | hki | hki
   ·have:=Classical.not_not.1 (hf k hki);omega
   ·subst hki;exact h2
   ·exact absurd (h1 i hki) hh
 ·rw [e,decide_eq_false]
  ·rfl
  ·rintro ⟨k,hk,_,h2⟩
   have:=Classical.not_not.1 (hn k hk);omega
def A78 (f:Nat→Nat→Bool) (ls:List Int):Prop := ∀x∈ls,∀y∈ls,¬(x.toNat≠y.toNat∧f x.toNat y.toNat=true)
theorem A1z (n:Nat) (q:Nat→Bool):Ce (Cj n q) n:=by
 intro x hx
 obtain ⟨z,h1,_,rfl⟩:=Oi.1 hx
 omega
end Go.Proofs.Ytmkgjnphianalaa.Ax
namespace Go.Proofs.Ytmkgjnphianalaa.Ax
open Go Classical
def pc (n m:Nat):Nat:=(Cj n (Y7 m)).length
theorem A0z {q q':Nat→Bool} {x:Nat} (hq:q x=false) (h : ∀i,q' i=(q i || decide (x=i))) : ∀n,(Cj n q').length=(Cj n q).length+if x<n then 1 else 0:=by
 intro n
 induction n with
 | zero=>simp [Cj]
 | succ n ih=>
   rw [Fo,Fo,h n]
   by_cases hxn:x=n
   ·subst hxn
    rw [hq]
    simp only [decide_true,Bool.or_true,if_true,Bool.false_eq_true,if_false]
    rw [List.length_append,ih,if_neg (by omega),if_pos (by omega)];rfl
   ·rw [decide_eq_false hxn,Bool.or_false]
    by_cases hqn:q n=true
    ·rw [if_pos hqn,if_pos hqn,List.length_append,List.length_append,ih]
     by_cases hx:x<n
     ·rw [if_pos hx,if_pos (by omega)];simp
     ·rw [if_neg hx,if_neg (by omega)];rfl
    ·rw [if_neg hqn,if_neg hqn,ih]
     by_cases hx:x<n
     ·rw [if_pos hx,if_pos (by omega)]
     ·rw [if_neg hx,if_neg (by omega)]
def wt (n m:Nat):Nat:=10^(10-pc n m)
def phi (n:Nat) (ws:List Int):Nat→Nat→Int
 | _,0=>0
 | M,k+1=>nth ws M*wt n M+phi n ws (M+1) k
section
variable {n:Nat} {f:Nat→Nat→Bool}
structure okW (n m:Nat) (ws:List Int):Prop where
 len:ws.length=2^n
 pos : ∀i,i<ws.length→0≤nth ws i
 sum:phi n ws m (2^n-m)≤10000000000
end
end Go.Proofs.Ytmkgjnphianalaa.Ax
namespace Go.Proofs.Ytmkgjnphianalaa.Ax
open Go Classical
end Go.Proofs.Ytmkgjnphianalaa.Ax
namespace Go.Proofs.Ytmkgjnphianalaa.Ax
open Go Classical
theorem A1q {q q':Nat→Bool} : ∀(n:Nat),(∀i,i<n→q i=true→q' i=true)→(Cj n q).length≤(Cj n q').length:=by
 intro n
 induction n with
 | zero=>intro _;simp [Cj]
 | succ n ih=>
   intro h
   have:=ih fun i hi=>h i (by omega)
   rw [Fo,Fo]
   by_cases hq:q n=true
   ·rw [if_pos hq,if_pos (h n (by omega) hq),List.length_append,List.length_append];simp;omega
   ·rw [if_neg hq]
    split
    ·rw [List.length_append];omega
    ·exact this
theorem A1t {q q':Nat→Bool} {x:Nat} (hx:q x=false) (hx':q' x=true) : ∀(n:Nat),x<n→(∀i,i<n→q i=true→q' i=true)→(Cj n q).length<(Cj n q').length:=by
 intro n
 induction n with
 | zero=>intro h _;omega
 | succ n ih=>
   intro hn h
   rw [Fo,Fo]
   by_cases hxn:x=n
   ·subst hxn
    have:=A1q x fun i hi=>h i (by omega)
    rw [hx,hx',if_neg (by simp),if_pos rfl,List.length_append];simp;omega
   ·have:=ih (by omega) fun i hi=>h i (by omega)
    by_cases hq:q n=true
    ·rw [if_pos hq,if_pos (h n (by omega) hq),List.length_append,List.length_append];simp;omega
    ·rw [if_neg hq]
     split
     ·rw [List.length_append];omega
     ·exact this
theorem A0r (n:Nat):(Cj n fun _=>true).length=n:=by
 induction n with
 | zero=>rfl
 | succ n ih=>rw [Fo,if_pos rfl,List.length_append,ih];rfl
end Go.Proofs.Ytmkgjnphianalaa.Ax
namespace Go.Proofs.Ytmkgjnphianalaa.Ax
open Go Classical
noncomputable def A7p (n:Nat) (g h:Nat→Nat→Nat) (S:Nat→Bool):Nat→Bool:=fun z=>decide (S z=true ∨ ∃x y,x<n∧y<n∧S x=true∧S y=true∧(z=g x y∨z=h x y))
noncomputable def Aqa (n:Nat) (g h:Nat→Nat→Nat) (S:Nat→Bool):Nat→Nat→Bool
 | 0=>S
 | k+1=>A7p n g h (Aqa n g h S k)
section
variable {n:Nat} {g h:Nat→Nat→Nat} {S:Nat→Bool}
def A79 (n:Nat) (g h:Nat→Nat→Nat) (S:Nat→Bool) (k:Nat):Prop := ∀z,z<n→Aqa n g h S (k+1) z=Aqa n g h S k z
noncomputable def closed (n:Nat) (g h:Nat→Nat→Nat) (S:Nat→Bool):Nat→Bool:=Aqa n g h S n
theorem Awh {xs:List Int} (hx:Ce xs n) (hr:Zb xs):Cj n (fun z=>decide ((z:Int)∈xs))=xs:=by
 refine Azz (Ahr _ _) hr fun x=> ?_
 rw [Oi]
 constructor
 ·rintro ⟨i,_,h1,rfl⟩;simpa using h1
 ·intro h1
  have:=hx x h1
  exact ⟨x.toNat,by omega,by simpa [show ((x.toNat:Nat):Int)=x by omega] using h1,by omega⟩
def A76 (n:Nat) (S:Nat→Bool):List Nat:=(List.range n).filter S
end
end Go.Proofs.Ytmkgjnphianalaa.Ax
namespace Go.Proofs.Ytmkgjnphianalaa.Ax
open Go Classical
theorem Ae7 {xs ys:List Int} (h:xs.length≤LIM):Iu xs ys=some (decide (xs=ys)):=by
 unfold Iu
 rw [Ay] at h
 split
 ·rename_i hl
  rw [decide_eq_false]
  rintro rfl;exact hl rfl
 rename_i hl
 have hl:xs.length=ys.length:=by omega
 have:=Dn (body:=E0 xs ys) (fun i=>(i:Int)) xs.length (fun i=>¬nth xs i=nth ys i) () () (fun i hi hb=>by
  unfold E0
  rw [if_pos (by omega),Af (by omega),Af (by omega)]
  simp only [Int.toNat_natCast]
  rw [if_neg (by simpa using hb),Af (by unfold InI;omega)];rfl) (fun i hi hb=>by
  unfold E0
  rw [if_pos (by omega),Af (by omega),Af (by omega)]
  simp only [Int.toNat_natCast]
  rw [if_pos hb]) (by unfold E0;rw [if_neg (by omega)]) 0 (by omega)
 show ((Al _ ((0:Nat):Int)).bind _)=_
 rw [this]
 by_cases hx : ∃i,0≤i∧i<xs.length∧¬nth xs i=nth ys i
 ·rw [if_pos hx,decide_eq_false]
  ·rfl
  ·rintro rfl;obtain ⟨i,_,_,hc⟩:=hx;exact hc rfl
 ·rw [if_neg hx,decide_eq_true (T8 hl (Pv.1 hx))]
  rfl
theorem A4i {n:Nat} (hn:n≤LIM) {xs:List Int} (hx:Ce xs n) (hl:xs.length≤LIM):M5 xs n=some (Na n fun z=>decide ((z:Int)∈xs)):=by
 unfold M5
 have hn':=hn
 rw [Ay] at hl hn'
 rw [Af (by rw [Ay];omega)]
 have key:=C4 (body:=Gk xs) (fun i=>((i:Int),Na n fun z=>decide ((z:Int)∈xs.take i))) xs.length (Na n fun z=>decide ((z:Int)∈xs)) (fun i hi=>by
  unfold Gk
  dsimp only
  have hc:=hx _ (Az hi)
  have hlen:=J2 n fun z=>decide ((z:Int)∈xs.take i)
  rw [if_pos (by omega),Af (by omega),Int.toNat_natCast,Af (by rw [hlen];omega),Af (by unfold InI;omega),Adu (by omega)]
  congr 3
  refine H6 fun z _=> ?_
  rw [Hf hi]
  by_cases hz:z=(nth xs i).toNat
  ·rw [if_pos hz]
   refine (decide_eq_true ?_).symm
   rw [List.mem_append,List.mem_singleton];right;omega
  ·rw [if_neg hz,decide_eq_decide,List.mem_append,List.mem_singleton]
   exact ⟨.inl,fun h=>h.resolve_right (by omega)⟩) (by
  unfold Gk
  dsimp only
  rw [if_neg (by omega),List.take_length])
 have e0:(Na n fun z=>decide ((z:Int)∈xs.take 0))=List.replicate n false:=by
  rw [Xe];exact H6 fun z _=>by simp
 simp only [e0] at key
 rw [Int.toNat_natCast]
 show (Al _ (((0:Nat):Int),_)).bind _=_
 rw [key];rfl
theorem A3n {n:Nat} (hn:n≤LIM) (S:Nat→Bool):K7 (Na n S)=some (Cj n S):=by
 unfold K7
 have hn':=hn
 rw [Ay] at hn'
 have hl:=J2 n S
 rw [Aj8 n S (fun i acc hi ha=>by
  unfold Hh
  dsimp only
  rw [if_pos (by omega),Af (by omega),Int.toNat_natCast,Lg hi]
  by_cases hp:S i=true
  ·rw [if_pos hp,if_pos hp,Af (by rw [Ay];simp;omega),Af (by unfold InI;omega)];rfl
  ·rw [if_neg hp,if_neg hp,Af (by unfold InI;omega)];rfl) (fun acc=>by
  unfold Hh
  dsimp only
  rw [if_neg (by omega)])]
 rfl
end Go.Proofs.Ytmkgjnphianalaa.Ax
namespace Go.Proofs.Ytmkgjnphianalaa.Ax
open Go Classical
def F8 (a:SAlgebra):Prop:=a.Ops.length≤1048576 ∧ ∀f∈a.Ops,f.Table.length≤1048576
end Go.Proofs.Ytmkgjnphianalaa.Ax
namespace Go.Proofs.Ytmkgjnphianalaa.Ax
open Go Classical
end Go.Proofs.Ytmkgjnphianalaa.Ax
namespace Go.Proofs.Ytmkgjnphianalaa.Ax
open Go Classical
end Go.Proofs.Ytmkgjnphianalaa.Ax
namespace Go.Proofs.Ytmkgjnphianalaa.Ax
open Go Classical
def A2z (n:Nat) (f:SOp):Prop:=0≤f.Arity∧f.Arity≤3∧f.Table.length=n^f.Arity.toNat∧Ce f.Table n
def C5 (a:SAlgebra):Prop:=1≤a.Size∧a.Size≤8∧a.Ops.length≤4 ∧ ∀f∈a.Ops,A2z a.Size.toNat f
theorem Zp {n k:Nat} (hn:n≤8) (hk:k≤3):n^k≤512:=
 Nat.le_trans (Nat.pow_le_pow_left hn k) (Nat.le_trans (Nat.pow_le_pow_right (by omega) hk) (by decide))
theorem A5p {n k:Nat} (hn:n≤8) (hk:k≤3):Kc n k=some ((n^k:Nat):Int):=by
 unfold Kc
 have key:=C4 (body:=Fi n) (fun j=>(((n^j:Nat):Int),((k:Int)-(j:Int)))) k ((n^k:Nat):Int) (fun j hj=>by
  unfold Fi
  dsimp only
  have hp:=Zp hn (show j+1≤3 by omega)
  rw [Nat.pow_succ] at hp
  rw [if_pos (by omega),←Int.natCast_mul,Nat.pow_succ]
  generalize n^j*n=N at hp ⊢
  rw [Af (by unfold InI;omega),Af (by unfold InI;omega),show ((k:Int)-(j:Int)-1)=(k:Int)-((j+1:Nat):Int) by omega]) (by
  unfold Fi
  dsimp only
  rw [if_neg (by omega)])
 have key':Al (Fi n) (1,(k:Int))=some ((n^k:Nat):Int):=by simpa using key
 rw [key'];rfl
theorem Asc {n k:Nat} (hn:n≤8) (hk:k≤3):Gy n k=some ((n^k:Nat):Int):=by
 unfold Gy
 have key:=C4 (body:=Fl n) (fun j=>(((n^j:Nat):Int),((k:Int)-(j:Int)))) k ((n^k:Nat):Int) (fun j hj=>by
  unfold Fl
  dsimp only
  have hp:=Zp hn (show j+1≤3 by omega)
  rw [Nat.pow_succ] at hp
  rw [if_pos (by omega),←Int.natCast_mul,Nat.pow_succ]
  generalize n^j*n=N at hp ⊢
  rw [Af (by unfold InI;omega),Af (by unfold InI;omega),show ((k:Int)-(j:Int)-1)=(k:Int)-((j+1:Nat):Int) by omega]) (by
  unfold Fl
  dsimp only
  rw [if_neg (by omega)])
 have key':Al (Fl n) (1,(k:Int))=some ((n^k:Nat):Int):=by simpa using key
 rw [key'];rfl
theorem A3a {n:Nat} (hn:n≤8) {f:SOp} (hl:f.Table.length≤LIM):Pp f n=some (decide (A2z n f)):=by
 unfold Pp
 by_cases h0:0≤f.Arity
 ·rw [if_pos (show f.Arity≥0 from h0)]
  by_cases h3:f.Arity≤3
  ·have e:Kc (n:Int) f.Arity=some ((n^f.Arity.toNat:Nat):Int):=by
    have:=A5p hn (k:=f.Arity.toNat) (by omega)
    rwa [show ((f.Arity.toNat:Nat):Int)=f.Arity by omega] at this
   rw [if_pos h3,e]
   simp only [Option.bind_some]
   by_cases hL:f.Table.length=n^f.Arity.toNat
   ·rw [if_pos (by rw [hL]),Atg _ _ hl]
    simp only [Option.bind_some]
    congr 1
    rw [decide_eq_decide]
    exact ⟨fun h=>⟨h0,h3,hL,h⟩,fun h=>h.2.2.2⟩
   ·rw [if_neg (fun hc=>hL (Int.ofNat_inj.1 hc)),decide_eq_false (fun h=>hL h.2.2.1)]
  ·rw [if_neg h3,decide_eq_false (fun h=>h3 h.2.1)]
 ·rw [if_neg (by omega),decide_eq_false (fun h=>h0 h.1)]
theorem A3u {n:Nat} (hn1:1≤n) (hn:n≤8) {f:SOp} (hl:f.Table.length≤LIM):P0 n f=some (decide (A2z n f)):=by
 unfold P0
 rw [Zj]
 simp only [Option.bind_some]
 by_cases h0:0≤f.Arity∧f.Arity≤3
 ·have e:Gy (n:Int) f.Arity=some ((n^f.Arity.toNat:Nat):Int):=by
   have:=Asc hn (k:=f.Arity.toNat) (by omega)
   rwa [show ((f.Arity.toNat:Nat):Int)=f.Arity by omega] at this
  rw [decide_eq_true h0,if_pos rfl,e]
  simp only [Option.bind_some]
  by_cases hL:f.Table.length=n^f.Arity.toNat
  ·rw [if_neg (by rw [hL];simp)]
   simp only [Option.bind_some]
   have hl':=hl
   rw [Ay] at hl'
   have this:=Dn (body:=Gd n f) (fun i=>(i:Int)) f.Table.length (fun i=>¬(0≤nth f.Table i∧nth f.Table i≤(n:Int)-1)) () () (fun i hi hb=>by
    unfold Gd
    rw [if_pos (by omega),Af (by omega),Af (by unfold InI;omega),Zj]
    simp only [Int.toNat_natCast,Option.bind_some]
    rw [decide_eq_true (Classical.not_not.1 hb),if_pos rfl,Af (by unfold InI;omega)];rfl) (fun i hi hb=>by
    unfold Gd
    rw [if_pos (by omega),Af (by omega),Af (by unfold InI;omega),Zj]
    simp only [Int.toNat_natCast,Option.bind_some]
    rw [decide_eq_false hb,if_neg (by simp)]) (by
    unfold Gd
    rw [if_neg (by omega)]) 0 (by omega)
   refine (F2 this false true).trans (congrArg some (Tt ?_))
   rw [Pv]
   constructor
   ·intro h
    refine ⟨h0.1,h0.2,hL,fun x hx=> ?_⟩
    obtain ⟨i,hi,rfl⟩:=I9.1 hx
    have:=h i hi;omega
   ·intro h i hi
    have:=h.2.2.2 _ (Az hi);omega
  ·rw [if_pos (fun hc=>hL (Int.ofNat_inj.1 hc)),decide_eq_false (fun h=>hL h.2.2.1)];rfl
 ·rw [decide_eq_false h0,if_neg (by simp),decide_eq_false (fun h=>h0 ⟨h.1,h.2.1⟩)];rfl
theorem S9 {a:SAlgebra} (h:F8 a):D2 a=some (decide (C5 a)):=by
 unfold D2
 by_cases h1:a.Size<1
 ·rw [if_pos h1,decide_eq_false (fun hg=>by have:=hg.1;omega)];rfl
 rw [if_neg h1]
 by_cases h8:a.Size>8
 ·rw [if_pos h8,decide_eq_false (fun hg=>by have:=hg.2.1;omega)];rfl
 rw [if_neg h8]
 by_cases h4:(a.Ops.length:Int)>4
 ·rw [if_pos h4,decide_eq_false (fun hg=>by have:=hg.2.2.1;omega)];rfl
 rw [if_neg h4]
 simp only [Option.bind_some]
 obtain ⟨n,hn⟩:=Int.eq_ofNat_of_zero_le (show 0≤a.Size by omega)
 have this:=Dn (body:=Dh a) (fun i=>(i:Int)) a.Ops.length (fun i=>¬A2z n (nth a.Ops i)) () () (fun i hi hb=>by
  have hl:=h.2 _ (Az hi)
  unfold Dh
  rw [if_pos (by omega),Af (by omega),Int.toNat_natCast,hn,A3a (by omega) (by rw [Ay];omega)]
  simp only [Option.bind_some]
  rw [decide_eq_true (Classical.not_not.1 hb),if_pos rfl,Af (by unfold InI;omega)];rfl) (fun i hi hb=>by
  have hl:=h.2 _ (Az hi)
  unfold Dh
  rw [if_pos (by omega),Af (by omega),Int.toNat_natCast,hn,A3a (by omega) (by rw [Ay];omega)]
  simp only [Option.bind_some]
  rw [decide_eq_false hb,if_neg (by simp)]) (by
  unfold Dh
  rw [if_neg (by omega)]) 0 (by omega)
 refine (F2 this false true).trans (congrArg some (Tt ?_))
 rw [Pv]
 have hnn:a.Size.toNat=n:=by omega
 constructor
 ·intro hh
  refine ⟨by omega,by omega,by omega,fun f hf=> ?_⟩
  obtain ⟨i,hi,rfl⟩:=I9.1 hf
  rw [hnn];exact hh i hi
 ·intro hg i hi
  have:=hg.2.2.2 _ (Az hi)
  rwa [hnn] at this
theorem Wu {a:SAlgebra} (h:F8 a):D6 a=some (decide (C5 a)):=by
 unfold D6
 rw [Zj]
 simp only [Option.bind_some]
 by_cases h1:1≤a.Size∧a.Size≤8
 ·rw [decide_eq_true h1,if_pos rfl]
  by_cases h4:(a.Ops.length:Int)>4
  ·rw [if_pos h4,decide_eq_false (fun hg=>by have:=hg.2.2.1;omega)];rfl
  rw [if_neg h4]
  simp only [Option.bind_some]
  obtain ⟨n,hn⟩:=Int.eq_ofNat_of_zero_le (show 0≤a.Size by omega)
  have this:=Dn (body:=Ez a) (fun i=>(i:Int)) a.Ops.length (fun i=>¬A2z n (nth a.Ops i)) () () (fun i hi hb=>by
   have hl:=h.2 _ (Az hi)
   unfold Ez
   rw [if_pos (by omega),Af (by omega),Int.toNat_natCast,hn,A3u (by omega) (by omega) (by rw [Ay];omega)]
   simp only [Option.bind_some]
   rw [decide_eq_true (Classical.not_not.1 hb),if_pos rfl,Af (by unfold InI;omega)];rfl) (fun i hi hb=>by
   have hl:=h.2 _ (Az hi)
   unfold Ez
   rw [if_pos (by omega),Af (by omega),Int.toNat_natCast,hn,A3u (by omega) (by omega) (by rw [Ay];omega)]
   simp only [Option.bind_some]
   rw [decide_eq_false hb,if_neg (by simp)]) (by
   unfold Ez
   rw [if_neg (by omega)]) 0 (by omega)
  refine (F2 this false true).trans (congrArg some (Tt ?_))
  rw [Pv]
  have hnn:a.Size.toNat=n:=by omega
  constructor
  ·intro hh
   refine ⟨by omega,by omega,by omega,fun f hf=> ?_⟩
   obtain ⟨i,hi,rfl⟩:=I9.1 hf
   rw [hnn];exact hh i hi
  ·intro hg i hi
   have:=hg.2.2.2 _ (Az hi)
   rwa [hnn] at this
 ·rw [decide_eq_false h1,if_neg (by simp),decide_eq_false (fun hg=>h1 ⟨hg.1,hg.2.1⟩)];rfl
def Dg (a:SAlgebra):List Int:=a.Ops.map (·.Arity)
theorem Akz {a:SAlgebra} {i:Nat} (hi:i<a.Ops.length):(a.Ops.take (i+1)).map (·.Arity)=(a.Ops.take i).map (·.Arity)++[(nth a.Ops i).Arity]:=by
 rw [Hf hi,List.map_append];rfl
theorem Asw {a:SAlgebra} (h:F8 a):Ir a=some (Dg a):=by
 unfold Ir
 have h0:=h.1
 have key:=C4 (body:=Es a) (fun i=>((i:Int),(a.Ops.take i).map (·.Arity))) a.Ops.length (Dg a) (fun i hi=>by
  unfold Es
  dsimp only
  rw [if_pos (by omega),Af (by omega),Int.toNat_natCast,Af (by rw [Ay];simp only [List.length_map,List.length_take,List.length_cons,List.length_nil];omega),Af (by unfold InI;omega),Akz hi]
  rfl) (by
  unfold Es
  dsimp only
  rw [if_neg (by omega),List.take_length]
  rfl)
 have key':Al (Es a) (0,Ao Int)=_:=key
 rw [key'];rfl
theorem Vh {a:SAlgebra} (h:F8 a):It a=some (Dg a):=by
 unfold It
 have h0:=h.1
 have key:=C4 (body:=Eo a) (fun i=>((i:Int),(a.Ops.take i).map (·.Arity))) a.Ops.length (Dg a) (fun i hi=>by
  unfold Eo
  dsimp only
  rw [if_pos (by omega),Af (by omega),Int.toNat_natCast,Af (by rw [Ay];simp only [List.length_map,List.length_take,List.length_cons,List.length_nil];omega),Af (by unfold InI;omega),Akz hi]
  rfl) (by
  unfold Eo
  dsimp only
  rw [if_neg (by omega),List.take_length]
  rfl)
 have key':Al (Eo a) (0,Ao Int)=_:=key
 rw [key'];rfl
theorem Aa0 {a:SAlgebra} (h:F8 a):(Dg a).length≤LIM:=by
 have:=h.1
 unfold Dg;rw [List.length_map,Ay];omega
theorem Axj {xs ys:List Int} (h:xs.length≤LIM):Iq xs ys=some (decide (xs=ys)):=by
 unfold Iq
 rw [Ay] at h
 by_cases hne:xs.length=ys.length
 ·rw [if_neg (by omega)]
  have this:=Dn (body:=Ds xs ys) (fun i=>(i:Int)) xs.length (fun i=>¬nth xs i=nth ys i) () () (fun i hi hb=>by
   unfold Ds
   rw [if_pos (by omega),Af (by omega),Af (by omega)]
   simp only [Int.toNat_natCast]
   rw [if_neg (fun hc=>hc (Classical.not_not.1 hb).symm),Af (by unfold InI;omega)];rfl) (fun i hi hb=>by
   unfold Ds
   rw [if_pos (by omega),Af (by omega),Af (by omega)]
   simp only [Int.toNat_natCast]
   rw [if_pos (fun hc=>hb hc.symm)]) (by unfold Ds;rw [if_neg (by omega)]) 0 (by omega)
  refine (F2 this false true).trans (congrArg some (Tt ?_))
  rw [Pv]
  exact ⟨fun hh=>T8 hne hh,fun hh i _=>by rw [hh]⟩
 ·rw [if_pos (by omega),decide_eq_false (fun hh=>hne (by rw [hh]))]
end Go.Proofs.Ytmkgjnphianalaa.Ax
namespace Go.Proofs.Ytmkgjnphianalaa.Ax
open Go Classical
def Jm (n:Nat):Nat→Nat→List Int
 | 0,_=>[]
 | r+1,k=>Jm n r (k/n)++[((k%n:Nat):Int)]
theorem K0 (n:Nat) : ∀r k,(Jm n r k).length=r:=by
 intro r
 induction r with
 | zero=>intro k;rfl
 | succ r ih=>intro k;simp [Jm,ih]
theorem Q9 {n:Nat} (hn:0<n) : ∀r k,Ce (Jm n r k) n:=by
 intro r
 induction r with
 | zero=>intro k x hx;cases hx
 | succ r ih=>
   intro k x hx
   simp only [Jm] at hx
   rcases List.mem_append.1 hx with hx | hx
   ·exact ih _ x hx
   ·rw [List.mem_singleton.1 hx]
    have:=Nat.mod_lt k hn
    omega
theorem A37 {n:Nat} (hn:0<n) (hn8:n≤8) : ∀(r k:Nat) (xs:List Int),r≤xs.length→xs.length≤1000→k≤1048576→Al (Ep n) ((r:Int)-1,xs,(k:Int))=some (Jm n r k++xs.drop r):=by
 intro r
 induction r with
 | zero=>
   intro k xs _ _ _
   refine Ck ?_
   unfold Ep
   dsimp only
   rw [if_neg (by omega)]
   simp [Jm]
 | succ r ih=>
   intro k xs hr hl hk
   have c1:(k:Int).tdiv (n:Int)=((k/n:Nat):Int):=rfl
   have c2:(k:Int).tmod (n:Int)=((k%n:Nat):Int):=rfl
   have hd:k/n≤k:=Nat.div_le_self k n
   have step:Ep n (((r+1:Nat):Int)-1,xs,(k:Int))=some (.inl ((r:Int)-1,xs.set r ((k%n:Nat):Int),((k/n:Nat):Int))):=by
    unfold Ep
    dsimp only
    rw [show (((r+1:Nat):Int)-1)=(r:Int) by omega,c1,c2]
    generalize k/n=kd at hd
    rw [if_pos (by omega),Af (by omega),Af (by omega),Af (by unfold InI;omega),Af (by unfold InI;omega),Int.toNat_natCast]
   rw [Fj step,ih _ _ (by rw [List.length_set];omega) (by rw [List.length_set];exact hl) (by omega)]
   congr 1
   simp only [Jm]
   rw [List.append_assoc]
   congr 1
   have e:(xs.set r ((k%n:Nat):Int)).drop r=((k%n:Nat):Int)::xs.drop (r+1):=by
    refine List.ext_getElem (by simp;omega) fun i h1 h2=> ?_
    rw [List.getElem_drop,List.getElem_set]
    cases i with
    | zero=>simp
    | succ i=>
      rw [if_neg (by omega),List.getElem_cons_succ,List.getElem_drop]
      congr 1;omega
   rw [e];rfl
theorem Aaq {n r k:Nat} (hn:0<n) (hn8:n≤8) (hr:r≤3) (hk:k≤1048576):Fy n r k=some (Jm n r k):=by
 unfold Fy
 rw [Af (by rw [Ay];omega),Af (by unfold InI;omega),Int.toNat_natCast,A37 hn hn8 r k _ (by simp) (by simp;omega) hk]
 simp
def Wa (m:Nat) (xs:List Int):Int:=xs.foldl (fun s x=>s*(m:Int)+x) 0
theorem Ag1 (m:Nat) (xs:List Int) (y:Int):Wa m (xs++[y])=Wa m xs*(m:Int)+y:=by
 unfold Wa;rw [List.foldl_append];rfl
theorem A4d {m:Nat} : ∀(r:Nat) (xs:List Int),xs.length=r→Ce xs m → ∃c:Nat,Wa m xs=(c:Int)∧c<m^r:=by
 intro r
 induction r with
 | zero=>
   intro xs hl _
   have:xs=[]:=List.length_eq_zero_iff.1 hl
   subst this
   exact ⟨0,rfl,by simp⟩
 | succ r ih=>
   intro xs hl hx
   obtain ⟨ys,y,rfl⟩ : ∃ys y,xs=ys++[y]:=by
    refine ⟨xs.take r,nth xs r,?_⟩
    rw [←Hf (by omega),List.take_of_length_le (by omega)]
   have hy:=hx y (by simp)
   obtain ⟨c,h1,h2⟩:=ih ys (by simpa using hl) fun z hz=>hx z (by simp [hz])
   obtain ⟨d,rfl⟩:=Int.eq_ofNat_of_zero_le hy.1
   refine ⟨c*m+d,by rw [Ag1,h1];push_cast;rfl,?_⟩
   have h3:=Nat.mul_le_mul_right m (show c+1≤m^r from h2)
   rw [Nat.succ_mul] at h3
   rw [Nat.pow_succ]
   omega
theorem Ka {m:Nat} (hm:m≤8) {xs:List Int} (hl:xs.length≤3) (hx:Ce xs m) : ∃c:Nat,Wa m xs=(c:Int)∧c<m^xs.length∧c<512:=by
 obtain ⟨c,h1,h2⟩:=A4d xs.length xs rfl hx
 have:=Zp hm hl
 exact ⟨c,h1,h2,by omega⟩
theorem Apo {m:Nat} {xs:List Int} {i:Nat} (hi:i<xs.length):Wa m (xs.take (i+1))=Wa m (xs.take i)*(m:Int)+nth xs i:=by
 rw [Hf hi,Ag1]
theorem Ao6 {m:Nat} (hm:m≤8) {xs:List Int} (hl:xs.length≤3) (hx:Ce xs m) {i:Nat} (hi:i<xs.length) :
  InI (Wa m (xs.take i)*(m:Int))∧InI (Wa m (xs.take i)*(m:Int)+nth xs i):=by
 obtain ⟨c,h1,_,h3⟩:=Ka hm (xs:=xs.take i) (by rw [List.length_take];omega) fun z hz=>hx z (List.mem_of_mem_take hz)
 have hv:=hx _ (Az hi)
 have h4:c*m≤512*8:=Nat.mul_le_mul (by omega) hm
 rw [h1,←Int.natCast_mul]
 generalize c*m=d at h4
 unfold InI
 omega
theorem Aqz {b:SAlgebra} {m:Nat} (hm:m≤8) (hb:b.Size=m) {i:Nat} (hi:i<b.Ops.length) {xs:List Int} (hl:xs.length≤3) (hx:Ce xs m) (hT:(nth b.Ops i).Table.length=m^xs.length) :
  F9 b i xs=some (nth (nth b.Ops i).Table (Wa m xs).toNat):=by
 unfold F9
 have key:=C4 (body:=D9 b i xs) (fun j=>((j:Int),Wa m (xs.take j))) xs.length (Wa m xs) (fun j hj=>by
  unfold D9
  dsimp only
  obtain ⟨h1,h2⟩:=Ao6 hm hl hx hj
  rw [hb,if_pos (by omega),Af h1,Af (by omega),Int.toNat_natCast,Af h2,Af (by unfold InI;omega),Apo hj]
  rfl) (by
  unfold D9
  dsimp only
  rw [if_neg (by omega),List.take_length])
 have key':Al (D9 b i xs) (0,0)=_:=key
 rw [key']
 simp only [Option.bind_some]
 obtain ⟨c,h1,h2,_⟩:=Ka hm hl hx
 rw [Af (by omega),Int.toNat_natCast,Af (by rw [h1,hT];omega)]
def Y1 (n m:Nat) (f:List Int):Nat→Nat→Int
 | 0,_=>0
 | r+1,k=>Y1 n m f r (k/n)*(m:Int)+nth f (k%n)
theorem Wn (n m:Nat) (f:List Int) : ∀r k,Wa m ((Jm n r k).map fun x=>nth f x.toNat)=Y1 n m f r k:=by
 intro r
 induction r with
 | zero=>intro k;rfl
 | succ r ih=>
   intro k
   simp only [Jm,Y1,List.map_append,List.map_cons,List.map_nil,Int.toNat_natCast]
   rw [Ag1,ih]
theorem Aov (A C S M L:Int):A+C*S+S*M*L=A+S*(L*M+C):=by
 rw [Int.mul_add,Int.mul_comm C S,Int.add_assoc,Int.add_comm (S*C),Int.mul_assoc,Int.mul_comm M L]
theorem A3q {n m:Nat} (hn:0<n) (hm:m≤8) {a b:SAlgebra} (ha:a.Size=n) (hb:b.Size=m) {f:List Int} (hf:f.length=n) (hfx:Ce f m) {ar:Nat} (har:ar≤3) : ∀(r j s acc k:Nat),j+r=ar→s*8^r≤512→acc≤4096*j→k≤1048576 →
  Al (Bj ar a b f) ((j:Int),(s:Int),(acc:Int),(k:Int))=some ((acc:Int)+(s:Int)*Y1 n m f r k):=by
 intro r
 induction r with
 | zero=>
   intro j s acc k hj _ _ _
   refine Ck ?_
   unfold Bj
   dsimp only
   rw [if_neg (by omega)]
   simp [Y1]
 | succ r ih=>
   intro j s acc k hj hs hacc hk
   have hkn:=Nat.mod_lt k hn
   have hv:=hfx _ (Az (show k%n<f.length by omega))
   obtain ⟨c,hc⟩:=Int.eq_ofNat_of_zero_le hv.1
   have hd:k/n≤k:=Nat.div_le_self k n
   have hp:0<8^r:=Nat.pow_pos (by omega)
   rw [Nat.pow_succ] at hs
   have hs8:s*8≤512:=by
    have:s*8*1≤s*8*8^r:=Nat.mul_le_mul_left _ hp
    rw [Nat.mul_assoc,Nat.mul_assoc,Nat.mul_comm 8 (8^r)] at this
    omega
   have hsm:s*m≤s*8:=Nat.mul_le_mul_left _ hm
   have hcs:c*s≤8*64:=Nat.mul_le_mul (by omega) (by omega)
   have c1:(k:Int).tdiv (n:Int)=((k/n:Nat):Int):=rfl
   have c2:(k:Int).tmod (n:Int)=((k%n:Nat):Int):=rfl
   have step:Bj ar a b f ((j:Int),(s:Int),(acc:Int),(k:Int))=some (.inl (((j+1:Nat):Int),((s*m:Nat):Int),((acc+c*s:Nat):Int),((k/n:Nat):Int))):=by
    unfold Bj
    dsimp only
    rw [ha,hb,c1,c2,Int.toNat_natCast,hc]
    have e1:(c:Int)*(s:Int)=((c*s:Nat):Int):=by push_cast;rfl
    have e2:(s:Int)*(m:Int)=((s*m:Nat):Int):=by push_cast;rfl
    rw [e1,e2]
    generalize k/n=kd at hd
    generalize k%n=km at hkn
    generalize c*s=cs at hcs
    generalize s*m=sm at hsm
    rw [if_pos (by omega)]
    repeat rw [Af (by first | omega | (unfold InI;omega))]
    rfl
   have hb2:s*m*8^r≤512:=by
    have h1:s*m*8^r≤s*8*8^r:=Nat.mul_le_mul_right _ hsm
    rw [Nat.mul_assoc s 8,Nat.mul_comm 8 (8^r)] at h1
    omega
   rw [Fj step,ih (j+1) (s*m) (acc+c*s) (k/n) (by omega) hb2 (by omega) (by omega)]
   simp only [Y1,hc]
   congr 1
   push_cast
   exact Aov _ _ _ _ _
theorem Arx {n m:Nat} (hn:0<n) (hm:m≤8) {a b:SAlgebra} (ha:a.Size=n) (hb:b.Size=m) {f:List Int} (hf:f.length=n) (hfx:Ce f m) {ar:Nat} (har:ar≤3) {k:Nat} (hk:k≤1048576) :
  Dk k ar a b f=some (Y1 n m f ar k):=by
 unfold Dk
 have h8:1*8^ar≤512:=by rw [Nat.one_mul];exact Zp (by omega) har
 have key:=A3q hn hm ha hb hf hfx har ar 0 1 0 k (by omega) h8 (by omega) hk
 have key':Al (Bj ar a b f) (0,1,0,(k:Int))=some (Y1 n m f ar k):=by simpa using key
 rw [key'];rfl
theorem Afp {n m:Nat} (hn:0<n) {f:List Int} (hf:f.length=n) (hfx:Ce f m) (r k:Nat):Ce ((Jm n r k).map fun x=>nth f x.toNat) m:=by
 intro y hy
 obtain ⟨x,hx,rfl⟩:=List.mem_map.1 hy
 have:=Q9 hn r k x hx
 exact hfx _ (Az (by omega))
theorem Amc {f xs:List Int} (hl:xs.length≤3) (hx:Ce xs f.length):Il f xs=some (xs.map fun x=>nth f x.toNat):=by
 unfold Il
 have key:=C4 (body:=Dw f xs) (fun i=>((i:Int),(xs.take i).map fun x=>nth f x.toNat)) xs.length (xs.map fun x=>nth f x.toNat) (fun i hi=>by
  unfold Dw
  dsimp only
  have hv:=hx _ (Az hi)
  rw [if_pos (by omega),Af (by omega),Int.toNat_natCast,Af (by omega),Af (by rw [Ay];simp only [List.length_map,List.length_take,List.length_cons,List.length_nil];omega),Af (by unfold InI;omega),Hf hi,List.map_append]
  rfl) (by
  unfold Dw
  dsimp only
  rw [if_neg (by omega),List.take_length])
 have key':Al (Dw f xs) (0,Ao Int)=_:=key
 rw [key'];rfl
structure Homs (a b:SAlgebra) (f:List Int) (n m:Nat):Prop where
 ga:C5 a
 gb:C5 b
 ty:Dg a=Dg b
 sa:a.Size=n
 sb:b.Size=m
 len:f.length=n
 fin:Ce f m
def Fq (a b:SAlgebra) (f:List Int) (n m i k:Nat):Prop:=nth f (nth (nth a.Ops i).Table k).toNat≠nth (nth b.Ops i).Table (Y1 n m f (nth a.Ops i).Arity.toNat k).toNat
def faulty (a b:SAlgebra) (f:List Int) (n m:Nat):Prop := ∃i,i<a.Ops.length ∧ ∃k,k<(nth a.Ops i).Table.length∧Fq a b f n m i k
section
variable {a b:SAlgebra}
variable {f:List Int} {n m:Nat}
theorem Homs.ops (h:Homs a b f n m):a.Ops.length=b.Ops.length:=by
 have:=congrArg List.length h.ty
 simpa [Dg] using this
theorem Homs.op (h:Homs a b f n m) {i:Nat} (hi:i<a.Ops.length) : ∃r:Nat,r≤3∧(nth a.Ops i).Arity=r∧(nth b.Ops i).Arity=r∧(nth a.Ops i).Table.length=n^r∧(nth b.Ops i).Table.length=m^r∧Ce (nth a.Ops i).Table n∧n^r≤512:=by
 have hn:a.Size.toNat=n:=by have:=h.sa;omega
 have hm:b.Size.toNat=m:=by have:=h.sb;omega
 have hn8:n≤8:=by have:=h.sa;have:=h.ga.2.1;omega
 obtain ⟨h1,h2,h3,h4⟩:=h.ga.2.2.2 _ (Az hi)
 have hib:i<b.Ops.length:=by rw [←h.ops];exact hi
 obtain ⟨_,_,k3,_⟩:=h.gb.2.2.2 _ (Az hib)
 have e:(nth a.Ops i).Arity=(nth b.Ops i).Arity:=by
  have e1:nth (Dg a) i=(nth a.Ops i).Arity:=Aai _ hi
  have e2:nth (Dg b) i=(nth b.Ops i).Arity:=Aai _ hib
  rw [←e1,←e2,h.ty]
 rw [hn] at h3 h4
 rw [hm,←e] at k3
 exact ⟨(nth a.Ops i).Arity.toNat,by omega,by omega,by omega,h3,k3,h4,Zp hn8 (by omega)⟩
theorem Homs.pos (h:Homs a b f n m):0<n∧n≤8∧0<m∧m≤8:=by
 have:=h.sa;have:=h.sb;have:=h.ga.1;have:=h.ga.2.1;have:=h.gb.1;have:=h.gb.2.1
 omega
theorem Homs.low (h:Homs a b f n m) {r k:Nat} (hr:r≤3) : ∃c:Nat,Y1 n m f r k=(c:Int)∧c<m^r:=by
 obtain ⟨hn,_,_,hm⟩:=h.pos
 obtain ⟨c,h1,h2,_⟩:=Ka hm (xs:=(Jm n r k).map fun x=>nth f x.toNat) (by rw [List.length_map,K0];exact hr) (Afp hn h.len h.fin r k)
 rw [Wn] at h1
 rw [List.length_map,K0] at h2
 exact ⟨c,h1,h2⟩
end
def uniq (f:List Int):Prop := ∀i,i<f.length→nth f i∉f.take i
theorem Ad4 {a b:SAlgebra} (h:F8 a) (h':F8 b):Dp a b=some (decide (C5 a∧C5 b∧Dg a=Dg b)):=by
 unfold Dp
 rw [S9 h,S9 h']
 simp only [Option.bind_some]
 by_cases ga:C5 a
 ·by_cases gb:C5 b
  ·rw [decide_eq_true ga,decide_eq_true gb]
   simp only [if_true]
   unfold Ra Lj
   rw [S9 h,S9 h',decide_eq_true ga,decide_eq_true gb]
   simp only [Option.bind_some,if_true]
   rw [Asw h,Asw h']
   simp only [Option.bind_some]
   rw [Axj (Aa0 h)]
   simp only [Option.bind_some,if_true]
   congr 1
   rw [decide_eq_decide]
   exact ⟨fun ht=>⟨ga,gb,ht⟩,fun hh=>hh.2.2⟩
  ·rw [decide_eq_true ga,decide_eq_false gb,decide_eq_false (show ¬(C5 a∧C5 b∧Dg a=Dg b) from fun hh=>gb hh.2.1)];simp
 ·rw [decide_eq_false ga,decide_eq_false (show ¬(C5 a∧C5 b∧Dg a=Dg b) from fun hh=>ga hh.1)];simp
theorem Ajn {a b:SAlgebra} (h:F8 a) (h':F8 b):Gs a b=some (decide (C5 a∧C5 b∧Dg a=Dg b)):=by
 unfold Gs
 rw [Wu h,Wu h']
 simp only [Option.bind_some]
 by_cases ga:C5 a
 ·by_cases gb:C5 b
  ·rw [decide_eq_true ga,decide_eq_true gb]
   simp only [if_true]
   unfold E6
   rw [Vh h,Vh h']
   simp only [Option.bind_some]
   rw [Ae7 (Aa0 h)]
   simp only [Option.bind_some]
   congr 1
   rw [decide_eq_decide]
   exact ⟨fun ht=>⟨ga,gb,ht⟩,fun hh=>hh.2.2⟩
  ·rw [decide_eq_true ga,decide_eq_false gb,decide_eq_false (show ¬(C5 a∧C5 b∧Dg a=Dg b) from fun hh=>gb hh.2.1)];simp
 ·rw [decide_eq_false ga,decide_eq_false (show ¬(C5 a∧C5 b∧Dg a=Dg b) from fun hh=>ga hh.1)];simp
end Go.Proofs.Ytmkgjnphianalaa.Ax
namespace Go.Proofs.Ytmkgjnphianalaa.Ax
open Go Classical
theorem A1c {f:List Int} (hl:f.length≤LIM) {n:Nat} (hn1:n≤100):Is f n=some (decide ((f.length:Int)=n∧Ce f n∧uniq f)):=by
 unfold Is
 by_cases h1:(f.length:Int)=n
 ·rw [if_neg (by simpa using h1),Ar0 n f hl (by rw [Ay];omega)]
  simp only [Option.bind_some]
  by_cases h2:Ce f n
  ·rw [decide_eq_true h2,if_pos rfl]
   simp only [Option.bind_some]
   have hn:n=f.length:=by omega
   subst hn
   rw [Af (by rw [Ay];omega),Int.toNat_natCast]
   have this:=Dn (body:=Ew f f.length) (fun i=>((i:Int),Na f.length fun z=>decide ((z:Int)∈f.take i))) f.length (fun i=>nth f i∈f.take i) () () (fun i hi hb=>by
    have hv:=h2 _ (Az hi)
    have hc:nth f i=(((nth f i).toNat:Nat):Int):=by omega
    have hlen:=J2 f.length fun z=>decide ((z:Int)∈f.take i)
    unfold Ew
    dsimp only
    rw [if_pos (by omega),Af (by omega),Int.toNat_natCast,Af (by omega),Lg (by omega),if_neg (by rw [←hc];simpa using hb),Af (by omega),Af (by omega),Af (by unfold InI;omega),Adu (by omega)]
    refine congrArg (fun x=>some (Sum.inl (_,x))) (H6 fun z _=> ?_)
    rw [Hf hi]
    by_cases hz:z=(nth f i).toNat
    ·rw [if_pos hz]
     refine (decide_eq_true ?_).symm
     rw [List.mem_append,List.mem_singleton];right;omega
    ·rw [if_neg hz,decide_eq_decide,List.mem_append,List.mem_singleton]
     exact ⟨.inl,fun h=>h.resolve_right (by omega)⟩) (fun i hi hb=>by
    have hv:=h2 _ (Az hi)
    have hc:nth f i=(((nth f i).toNat:Nat):Int):=by omega
    have hlen:=J2 f.length fun z=>decide ((z:Int)∈f.take i)
    unfold Ew
    dsimp only
    rw [if_pos (by omega),Af (by omega),Int.toNat_natCast,Af (by omega),Lg (by omega),if_pos (by rw [←hc];simpa using hb)]) (by
    unfold Ew
    dsimp only
    rw [if_neg (by omega)]) 0 (by omega)
   have e0:(Na f.length fun z=>decide ((z:Int)∈f.take 0))=List.replicate f.length false:=by
    rw [Xe];exact H6 fun z _=>by simp
   simp only [e0] at this
   refine (F2 this false true).trans (congrArg some (Tt ?_))
   constructor
   ·intro hno
    exact ⟨rfl,h2,fun i hi hm=>hno ⟨i,by omega,hi,hm⟩⟩
   ·rintro ⟨_,_,hu⟩ ⟨i,_,hi,hm⟩
    exact hu i hi hm
  ·rw [decide_eq_false h2,if_neg (by simp),decide_eq_false (fun h=>h2 h.2.1)];rfl
 ·rw [if_pos (by simpa using h1),decide_eq_false (fun h=>h1 h.1)];rfl
structure Perm (f:List Int) (n:Nat):Prop where
 len:f.length=n
 fin:Ce f n
 un:uniq f
theorem Perm.count {f:List Int} {n:Nat} (h:Perm f n) : ∀i,i≤n→(Cj n fun z=>decide ((z:Int)∈f.take i)).length=i:=by
 intro i
 induction i with
 | zero=>
   intro _
   rw [List.length_eq_zero_iff]
   exact Azd.2 fun z _=>by simp
 | succ i ih=>
   intro hi
   have hil:i<f.length:=by rw [h.len];exact hi
   have hv:=h.fin _ (Az hil)
   have hu:=h.un i hil
   have hc:nth f i=(((nth f i).toNat:Nat):Int):=by omega
   have:=A0z (q:=fun z=>decide ((z:Int)∈f.take i)) (q':=fun z=>decide ((z:Int)∈f.take (i+1))) (x:=(nth f i).toNat) (decide_eq_false (by rw [←hc];exact hu)) (fun z=>by
    rw [Hf hil,Bool.eq_iff_iff]
    simp only [decide_eq_true_eq,List.mem_append,List.mem_singleton,Bool.or_eq_true]
    constructor
    ·rintro (h1 | h1)
     ·exact .inl h1
     ·exact .inr (by omega)
    ·rintro (h1 | h1)
     ·exact .inl h1
     ·exact .inr (by omega)) n
   rw [this,ih (by omega),if_pos (by omega)]
theorem Perm.onto {f:List Int} {n:Nat} (h:Perm f n) {v:Nat} (hv:v<n) : ∃x,x<n∧nth f x=(v:Int):=by
 have hc:=h.count n (Nat.le_refl _)
 have hm:(v:Int)∈f:=by
  apply Classical.byContradiction
  intro hno
  have hlt:=A1t (q:=fun z=>decide ((z:Int)∈f.take n)) (q':=fun _=>true) (x:=v) (decide_eq_false fun hm=>hno (List.mem_of_mem_take hm)) rfl n hv fun _ _ _=>rfl
  rw [A0r,hc] at hlt
  omega
 obtain ⟨x,hx,e⟩:=I9.1 hm
 exact ⟨x,by rw [←h.len];exact hx,e⟩
def wr (f T:List Int) (n r:Nat) (t0:List Int):Nat→List Int
 | 0=>t0
 | k+1=>(wr f T n r t0 k).set (Y1 n n f r k).toNat (nth f (nth T k).toNat)
theorem Awn (f T:List Int) (n r:Nat) (t0:List Int) : ∀k,(wr f T n r t0 k).length=t0.length:=by
 intro k
 induction k with
 | zero=>rfl
 | succ k ih=>simp [wr,ih]
def Aky (f:List Int) (n:Nat) (o:SOp):SOp:=⟨o.Arity,wr f o.Table n o.Arity.toNat (List.replicate o.Table.length 0) o.Table.length⟩
section
variable {a:SAlgebra}
variable {f:List Int} {n:Nat}
theorem A28 (ga:C5 a) (hn:a.Size=n) {i:Nat} (hi:i<a.Ops.length) : ∃r:Nat,r≤3∧(nth a.Ops i).Arity=r∧(nth a.Ops i).Table.length=n^r∧Ce (nth a.Ops i).Table n∧n^r≤512∧0<n∧n≤8:=by
 have hnn:a.Size.toNat=n:=by omega
 have:=ga.1
 have:=ga.2.1
 obtain ⟨h1,h2,h3,h4⟩:=ga.2.2.2 _ (Az hi)
 rw [hnn] at h3 h4
 exact ⟨(nth a.Ops i).Arity.toNat,by omega,by omega,h3,h4,Zp (by omega) (by omega),by omega,by omega⟩
theorem A7h (h:Perm f n) (hn:0<n) (hn8:n≤8) {r:Nat} (hr:r≤3) (k:Nat) : ∃c:Nat,Y1 n n f r k=(c:Int)∧c<n^r:=by
 obtain ⟨c,h1,h2,_⟩:=Ka hn8 (xs:=(Jm n r k).map fun x=>nth f x.toNat) (by rw [List.length_map,K0];exact hr) (Afp hn h.len h.fin r k)
 rw [Wn] at h1
 rw [List.length_map,K0] at h2
 exact ⟨c,h1,h2⟩
theorem A7j (ga:C5 a) (hn:a.Size=n) (h:Perm f n) {i:Nat} (hi:i<a.Ops.length) (x5:SAlgebra):Al (Dv a f (i:Int) x5) (0,(⟨(nth a.Ops i).Arity,List.replicate (nth a.Ops i).Table.length 0⟩:SOp))=some (Aky f n (nth a.Ops i)):=by
 obtain ⟨r,hr,e1,l1,t1,l3,hn0,hn8⟩:=A28 ga hn hi
 have hlf:=h.len
 have er:(nth a.Ops i).Arity.toNat=r:=by omega
 exact C4 (body:=Dv a f (i:Int) x5) (fun k=>((k:Int),(⟨(nth a.Ops i).Arity,wr f (nth a.Ops i).Table n (nth a.Ops i).Arity.toNat (List.replicate (nth a.Ops i).Table.length 0) k⟩:SOp))) (nth a.Ops i).Table.length (Aky f n (nth a.Ops i)) (fun k hk=>by
  have hv:=t1 _ (Az hk)
  have hwl:(wr f (nth a.Ops i).Table n r (List.replicate (nth a.Ops i).Table.length 0) k).length=(nth a.Ops i).Table.length:=by rw [Awn,List.length_replicate]
  obtain ⟨c,hc1,hc2⟩:=A7h h hn0 hn8 hr k
  unfold Dv
  dsimp only
  simp only [hwl,e1,hn,Int.toNat_natCast]
  rw [if_pos (by omega),Aaq hn0 hn8 hr (by omega)]
  simp only [Option.bind_some]
  have hal:=K0 n r k
  have key:=C4 (body:=Dx a f (i:Int) x5 (k:Int) (⟨(r:Int),wr f (nth a.Ops i).Table n r (List.replicate (nth a.Ops i).Table.length 0) k⟩:SOp) (Jm n r k)) (fun j=>((j:Int),Wa n (((Jm n r k).map fun x=>nth f x.toNat).take j))) (Jm n r k).length (Y1 n n f r k) (fun j hj=>by
   have hx:=Q9 hn0 r k _ (Az hj)
   have hml:((Jm n r k).map fun x=>nth f x.toNat).length≤3:=by rw [List.length_map,hal];exact hr
   have hjl:j<((Jm n r k).map fun x=>nth f x.toNat).length:=by rw [List.length_map];exact hj
   obtain ⟨s1,s2⟩:=Ao6 hn8 hml (Afp hn0 h.len h.fin r k) hjl
   rw [Aai _ hj] at s2
   unfold Dx
   dsimp only
   rw [hn,if_pos (by omega),Af s1,Af (by omega),Int.toNat_natCast,Af (by omega),Af s2,Af (by unfold InI;omega),Apo hjl,Aai _ hj]
   rfl) (by
   unfold Dx
   dsimp only
   rw [if_neg (by omega)]
   have e:((Jm n r k).map fun x=>nth f x.toNat).take (Jm n r k).length=(Jm n r k).map fun x=>nth f x.toNat:=List.take_of_length_le (by rw [List.length_map];exact Nat.le_refl _)
   rw [e,Wn])
  have key':Al (Dx a f (i:Int) x5 (k:Int) (⟨(r:Int),wr f (nth a.Ops i).Table n r (List.replicate (nth a.Ops i).Table.length 0) k⟩:SOp) (Jm n r k)) (0,0)=some (Y1 n n f r k):=key
  rw [key']
  simp only [Option.bind_some]
  rw [Af (by omega),Af (by omega),Af (by omega),Af (by rw [hc1];omega),Af (by unfold InI;omega)]
  rfl) (by
  unfold Dv
  dsimp only
  rw [Awn,List.length_replicate,if_neg (by omega)]
  rfl)
theorem Aw2 (ga:C5 a) (hn:a.Size=n) (h:Perm f n):Gm a f=some ⟨a.Size,a.Ops.map (Aky f n)⟩:=by
 have h4:=ga.2.2.1
 unfold Gm
 have key:=C4 (body:=Du a f) (fun i=>((i:Int),(⟨a.Size,(a.Ops.take i).map (Aky f n)⟩:SAlgebra))) a.Ops.length ⟨a.Size,a.Ops.map (Aky f n)⟩ (fun i hi=>by
  obtain ⟨r,hr,e1,l1,t1,l3,hn0,hn8⟩:=A28 ga hn hi
  unfold Du
  dsimp only
  simp only [Int.toNat_natCast]
  rw [if_pos (by omega)]
  repeat rw [Af (by first | omega | (rw [Ay];omega))]
  rw [A7j ga hn h hi]
  simp only [Option.bind_some]
  rw [Af (by rw [Ay];simp only [List.length_map,List.length_take,List.length_cons,List.length_nil];omega),Af (by unfold InI;omega),Hf hi,List.map_append]
  rfl) (by
  unfold Du
  dsimp only
  rw [if_neg (by omega),List.take_length])
 have key':Al (Du a f) (0,{ Size:=a.Size,Ops:=Ao SOp })=_:=key
 rw [key'];rfl
end
end Go.Proofs.Ytmkgjnphianalaa.Ax
namespace Go.Proofs.Ytmkgjnphianalaa.Ax
open Go
def Cur (k:Nat) (c:Sl1Cur):Prop:=(∀x∈c.code,0≤x∧x≤255)∧c.code.length≤65536∧0≤c.at_∧c.at_≤k
theorem Cur.mono {k l:Nat} {c:Sl1Cur} (h:Cur k c) (hl:k≤l):Cur l c:=⟨h.1,h.2.1,h.2.2.1,by have:=h.2.2.2;omega⟩
theorem A3g {n:Int} (h0:0≤n) (h1:n≤255):IntKind.u64.wrap n=n:=by
 simp [IntKind.wrap,IntKind.bits,IntKind.signed]
 omega
theorem Apv {c:Sl1Cur} {k:Nat} (h:Cur k c) (hk:k≤1000000000) : ∃r d,Fc c=some (r,d)∧Cur (k+1) d∧0≤r∧r≤255:=by
 obtain ⟨h1,h2,h3,h4⟩:=h
 unfold Fc
 have fin : ∀q:Int,0≤q→q≤255 → ∃r d,(ask (InI (c.at_+1)) <|
   if c.at_+1≤(c.code.length:Int) then
    some (q,({ code:=c.code,at_:=c.at_+1,seed:=IntKind.u64.wrap (IntKind.u64.wrap (IntKind.u64.wrap (c.seed*6364136223846793005)+IntKind.u64.wrap q)+550289) }:Sl1Cur))
   else some (IntKind.i64.wrap (IntKind.u64.wrap (((BitVec.ofInt IntKind.u64.bits ((IntKind.u64.wrap (IntKind.u64.wrap (IntKind.u64.wrap (c.seed*6364136223846793005)+IntKind.u64.wrap q)+550289)).fdiv (2^min (Int.toNat 40) IntKind.u64.bits)) &&& BitVec.ofInt IntKind.u64.bits 255).toNat:Nat):Int)),
    ({ code:=c.code,at_:=c.at_+1,seed:=IntKind.u64.wrap (IntKind.u64.wrap (IntKind.u64.wrap (c.seed*6364136223846793005)+IntKind.u64.wrap q)+550289) }:Sl1Cur)))=some (r,d)∧Cur (k+1) d∧0≤r∧r≤255:=by
  intro q hq0 hq1
  rw [Af (by unfold InI;omega)]
  split
  ·exact ⟨_,_,rfl,⟨h1,h2,by show 0≤c.at_+1;omega,by show c.at_+1≤((k+1:Nat):Int);omega⟩,hq0,hq1⟩
  ·refine ⟨_,_,rfl,⟨h1,h2,by show 0≤c.at_+1;omega,by show c.at_+1≤((k+1:Nat):Int);omega⟩,?_⟩
   generalize BitVec.ofInt IntKind.u64.bits ((IntKind.u64.wrap (IntKind.u64.wrap (IntKind.u64.wrap (c.seed*6364136223846793005)+IntKind.u64.wrap q)+550289)).fdiv (2^min (Int.toNat 40) IntKind.u64.bits))=b
   have hb:(b &&& BitVec.ofInt IntKind.u64.bits 255).toNat≤255:=by
    rw [BitVec.toNat_and]
    have:(BitVec.ofInt IntKind.u64.bits 255).toNat=255:=by decide
    rw [this]
    exact Nat.and_le_right
   generalize (b &&& BitVec.ofInt IntKind.u64.bits 255).toNat=z at hb
   rw [A3g (by omega) (by omega),Q8 (by omega) (by omega)]
   omega
 by_cases hc:c.at_<(c.code.length:Int)
 ·rw [if_pos hc,Af ⟨h3,hc⟩]
  have hm:=h1 _ (Az (xs:=c.code) (i:=c.at_.toNat) (by omega))
  rw [Q8 (by omega) (by omega)]
  simp only [Option.bind_some]
  exact fin _ hm.1 hm.2
 ·rw [if_neg hc]
  simp only [Option.bind_some]
  exact fin 0 (by omega) (by omega)
theorem Dm {c:Sl1Cur} {k:Nat} (h:Cur k c) (hk:k≤900000000) (n:Int) : ∃r d,Aq c n=some (r,d)∧Cur (k+2) d∧0≤r∧(r<n∨(n≤1∧r=0)):=by
 unfold Aq
 by_cases h1:n≤1
 ·rw [if_pos h1];exact ⟨0,c,rfl,h.mono (by omega),by omega,.inr ⟨h1,rfl⟩⟩
 ·rw [if_neg h1]
  obtain ⟨r,d,e,hd,a1,a2⟩:=Apv h (by omega)
  simp only [e,Option.bind_some]
  by_cases h2:n>200
  ·rw [if_pos h2,Af (by unfold InI;omega)]
   obtain ⟨r2,d2,e2,hd2,b1,b2⟩:=Apv hd (by omega)
   simp only [e2,Option.bind_some]
   rw [Af (by unfold InI;omega),Af (by omega)]
   refine ⟨_,_,rfl,hd2,Int.tmod_nonneg _ (by omega),.inl ?_⟩
   exact Int.tmod_lt_of_pos _ (by omega)
  ·rw [if_neg h2,Af (by omega)]
   refine ⟨_,_,rfl,hd.mono (by omega),Int.tmod_nonneg _ (by omega),.inl ?_⟩
   exact Int.tmod_lt_of_pos _ (by omega)
theorem Aef {c:Sl1Cur} {k:Nat} (h:Cur k c) (hk:k≤900000000) (n:Int) : ∃b d,Da c n=some (b,d)∧Cur (k+2) d:=by
 unfold Da
 obtain ⟨r,d,e,hd,_,_⟩:=Dm h hk n
 simp only [e,Option.bind_some]
 exact ⟨_,_,rfl,hd⟩
theorem J4 {c:Sl1Cur} {k:Nat} (h:Cur k c) (hk:k≤900000000) (l:List Int) (h0:0<l.length) : ∃r d,Bi c l=some (r,d)∧Cur (k+2) d∧r∈l:=by
 unfold Bi
 obtain ⟨r,d,e,hd,a1,a2⟩:=Dm h hk (l.length:Int)
 simp only [e,Option.bind_some]
 rw [Af (by omega)]
 exact ⟨_,_,rfl,hd,Az (by omega)⟩
theorem Av2 {c:Sl1Cur} {k:Nat} (h:Cur k c) (hk:k≤800000000) (n:Nat) (hn:n≤10) : ∃l d,Ef c (n:Int)=some (l,d)∧Cur (k+40) d∧l.length≤11:=by
 unfold Ef
 obtain ⟨⟨l,d⟩,e,hl,hd⟩:=Cn (body:=D8 (n:Int)) (fun s => ∃i:Nat,s.1=(i:Int)∧i≤n∧s.2.1.length=i∧Cur (k+2*i) s.2.2) (fun s=>n-s.1.toNat)
  (fun t=>t.1.length=n∧Cur (k+2*n) t.2) (fun s hs=>by
   obtain ⟨x6,x5,x53⟩:=s
   obtain ⟨i,e1,e2,e3,e4⟩:=hs
   simp only at e1 e3 e4
   subst e1
   unfold D8
   dsimp only
   by_cases hi:i<n
   ·left
    rw [if_pos (by omega),Af (by unfold InI;omega)]
    obtain ⟨r,d,e5,hd,a1,a2⟩:=Dm e4 (by omega) ((x5.length:Int)+1)
    simp only [e5,Option.bind_some]
    have hr:r≤(x5.length:Int):=by omega
    have ht:(List.take (r.toNat-Int.toNat 0) (List.drop (Int.toNat 0) x5)).length=r.toNat:=by simp;omega
    have hd2:(List.take ((x5.length:Int).toNat-r.toNat) (List.drop r.toNat x5)).length=x5.length-r.toNat:=by simp
    have hL:=Ay
    have h0:(Ao Int).length=0:=rfl
    rw [Af ⟨by omega,a1,hr⟩,Af (by rw [h0,ht];omega),Af (by rw [List.length_append,h0,ht];simp;omega),Af ⟨a1,hr,by omega⟩,Af (by rw [List.length_append,List.length_append,h0,ht,hd2];simp;omega),
     Af (by unfold InI;omega)]
    refine ⟨_,rfl,⟨i+1,by simp,by omega,?_,hd.mono (by omega)⟩,?_⟩
    ·simp only [List.length_append,h0,ht,hd2];simp;omega
    ·simp only;omega
   ·right
    rw [if_neg (by omega)]
    have:i=n:=by omega
    subst this
    exact ⟨_,rfl,e3,e4⟩) (s:=(0,Ao Int,c)) ⟨0,by simp,by omega,rfl,h⟩
 simp only at hl hd
 rw [e]
 simp only [Option.bind_some]
 obtain ⟨r,d2,e2,hd2,a1,a2⟩:=Dm hd (by omega) 24
 simp only [e2,Option.bind_some]
 have hL:=Ay
 by_cases h0:r=0
 ·rw [if_pos h0,Af (by simp;omega)]
  exact ⟨_,_,rfl,hd2.mono (by omega),by simp;omega⟩
 ·rw [if_neg h0]
  by_cases h1:r=1
  ·rw [if_pos h1]
   by_cases h3:(n:Int)>0
   ·rw [if_pos h3]
    obtain ⟨r3,d3,e3,hd3,b1,b2⟩:=Dm hd2 (by omega) (n:Int)
    simp only [e3,Option.bind_some]
    obtain ⟨r4,d4,e4,hd4,b3⟩:=J4 hd3 (by omega) [0, -1,(n:Int)] (by simp)
    simp only [e4,Option.bind_some]
    rw [Af (by omega)]
    exact ⟨_,_,rfl,hd4.mono (by omega),by simp;omega⟩
   ·rw [if_neg h3];exact ⟨_,_,rfl,hd2.mono (by omega),by omega⟩
  ·rw [if_neg h1];exact ⟨_,_,rfl,hd2.mono (by omega),by omega⟩
open Classical
end Go.Proofs.Ytmkgjnphianalaa.Ax
namespace Go.Proofs.Ytmkgjnphianalaa.Ax
open Go Classical
def Ama (n r k:Nat) (S:Nat→Bool):Prop := ∀x∈Jm n r k,S x.toNat=true
theorem Ahs {n r k:Nat} {S T:Nat→Bool} (h : ∀z,S z=true→T z=true) (hi:Ama n r k S):Ama n r k T:=fun x hx=>h _ (hi x hx)
def Ajj (a:SAlgebra) (i k:Nat):Nat:=(nth (nth a.Ops i).Table k).toNat
def Ahf (a:SAlgebra) (i k:Nat) (S:Nat→Bool):Prop:=Ama a.Size.toNat (nth a.Ops i).Arity.toNat k S
def Tp (a:SAlgebra) (S:Nat→Bool):Prop := ∀i,i<a.Ops.length → ∀k,k<(nth a.Ops i).Table.length→Ahf a i k S→S (Ajj a i k)=true
noncomputable def Ael (a:SAlgebra) (S:Nat→Bool):Nat→Bool:=fun z=>decide (∀T:Nat→Bool,(∀x,S x=true→T x=true)→Tp a T→T z=true)
theorem Afo {a:SAlgebra} {S:Nat→Bool} (z:Nat) (h:S z=true):Ael a S z=true:=decide_eq_true fun _ hT _=>hT z h
theorem Ahj {a:SAlgebra} {S:Nat→Bool}:Tp a (Ael a S):=by
 intro i hi k hk ha
 refine decide_eq_true fun T hT hc=> ?_
 exact hc i hi k hk fun x hx=>of_decide_eq_true (ha x hx) T hT hc
theorem Akq {a:SAlgebra} {S T:Nat→Bool} (hT : ∀x,S x=true→T x=true) (hc:Tp a T) (z:Nat) (h:Ael a S z=true):T z=true:=of_decide_eq_true h T hT hc
theorem A0q {a:SAlgebra} {S:Nat→Bool} (hc:Tp a S):Ael a S=S:=by
 funext z
 cases h:S z with
 | true=>exact Afo z h
 | false=>
   cases h2:Ael a S z with
   | false=>rfl
   | true=>rw [Akq (fun _ h=>h) hc z h2] at h;cases h
def Ak3 (H:List Bool):Nat:=H.count true
theorem A33 (H:List Bool):Ak3 H≤H.length:=List.count_le_length
theorem A1j {H:List Bool} {v z:Nat} (hv:v<H.length):nth (H.set v true) z=true↔z=v∨nth H z=true:=by
 by_cases hz:z<H.length
 ·rw [Ld _ _ _ _ hz]
  by_cases e:v=z
  ·subst e;simp
  ·rw [if_neg e]
   exact ⟨.inr,fun h=>h.resolve_left (Ne.symm e)⟩
 ·have h1:nth H z=false:=by rw [Asa,List.getD_eq_getElem?_getD,List.getElem?_eq_none (by omega)];rfl
  have h2:nth (H.set v true) z=false:=by rw [Asa,List.getD_eq_getElem?_getD,List.getElem?_eq_none (by simp;omega)];rfl
  rw [h1,h2]
  constructor
  ·intro h;cases h
  ·rintro (h | h)
   ·omega
   ·cases h
theorem A41 {H:List Bool} {z:Nat} (h:nth H z=true):z<H.length:=by
 apply Classical.byContradiction
 intro hc
 rw [Asa,List.getD_eq_getElem?_getD,List.getElem?_eq_none (by omega)] at h
 cases h
theorem A0v {H K:List Bool} (hl:H.length=K.length) (h : ∀z,nth H z=true→nth K z=true):Ak3 H≤Ak3 K∧(Ak3 K≤Ak3 H→H=K):=by
 induction H generalizing K with
 | nil=>cases K with
   | nil=>exact ⟨Nat.le_refl _,fun _=>rfl⟩
   | cons=>simp at hl
 | cons x r ih=>
   cases K with
   | nil=>simp at hl
   | cons y s=>
     have hl':r.length=s.length:=by simpa using hl
     obtain ⟨h1,h2⟩:=ih hl' fun z hz=>h (z+1) hz
     have h0:x=true→y=true:=fun hx=>h 0 hx
     unfold Ak3 at *
     cases x<;>cases y
     ·simp only [List.count_cons]
      exact ⟨by simpa using h1,fun hh=>by rw [h2 (by simpa using hh)]⟩
     ·simp only [List.count_cons]
      refine ⟨by simp;omega,fun hh=> ?_⟩
      simp at hh;omega
     ·exact absurd (h0 rfl) (by simp)
     ·simp only [List.count_cons]
      exact ⟨by simpa using h1,fun hh=>by rw [h2 (by simpa using hh)]⟩
section
variable {a:SAlgebra}
structure ReadyA (a:SAlgebra) (n:Nat):Prop where
 good:C5 a
 sz:a.Size=(n:Int)
 pos:0<n
 le:n≤8
theorem A7i (hg:C5 a):ReadyA a a.Size.toNat:=⟨hg,by have:=hg.1;omega,by have:=hg.1;omega,by have:=hg.2.1;omega⟩
theorem ReadyA.nat {n:Nat} (h:ReadyA a n):a.Size.toNat=n:=by have:=h.sz;omega
theorem ReadyA.op {n:Nat} (h:ReadyA a n) {i:Nat} (hi:i<a.Ops.length) : ∃r:Nat,(nth a.Ops i).Arity=(r:Int)∧r≤3∧(nth a.Ops i).Table.length=n^r∧Ce (nth a.Ops i).Table n∧(nth a.Ops i).Table.length≤512∧(∀k S,Ahf a i k S↔Ama n r k S):=by
 have:=h.good.2.2.2 _ (Az hi)
 rw [h.nat] at this
 obtain ⟨h1,h2,h3,h4⟩:=this
 refine ⟨(nth a.Ops i).Arity.toNat,by omega,by omega,h3,h4,?_,fun k S=>by unfold Ahf;rw [h.nat]⟩
 rw [h3];exact Zp h.le (by omega)
theorem ReadyA.val {n:Nat} (h:ReadyA a n) {i k:Nat} (hi:i<a.Ops.length) (hk:k<(nth a.Ops i).Table.length):nth (nth a.Ops i).Table k=(Ajj a i k:Int)∧Ajj a i k<n:=by
 obtain ⟨r,_,_,_,h4,_⟩:=h.op hi
 have:=h4 _ (Az hk)
 unfold Ajj
 omega
structure Pass (n:Nat) (G:Nat→Bool) (c0:Bool) (H0:List Bool) (c:Bool) (H:List Bool) (done:(Nat→Bool)→Prop):Prop where
 len:H.length=n
 more : ∀z,nth H0 z=true→nth H z=true
 low : ∀z,nth H z=true→G z=true
 up:c=true→c0=true∨Ak3 H0<Ak3 H
 no:c=false→c0=false∧H=H0∧done (nth H)
 mono:Ak3 H0≤Ak3 H
def Zf (a:SAlgebra) (n:Nat) (xs:List Int):Prop:=Ce xs n∧Zb xs∧Cj n (Ael a fun z=>decide ((z:Int)∈xs))=xs
theorem A7r {n:Nat} {H:List Bool} (hH:H.length=n) {x6 x7:Int} {o:List Bool} {xs:List Int} (hx:Ce xs n) (hl:xs.length≤3) :
  Al (Er a H x6 x7 o xs) (0,true)=some (decide (∀x∈xs,nth H x.toNat=true)):=by
 have key:=C4 (body:=Er a H x6 x7 o xs) (fun i=>((i:Int),decide (∀x∈xs.take i,nth H x.toNat=true))) xs.length (decide (∀x∈xs,nth H x.toNat=true)) (fun i hi=>by
  have hc:=hx _ (Az hi)
  have ht:=Hf hi
  unfold Er
  dsimp only
  rw [if_pos (by omega)]
  by_cases hb : ∀x∈xs.take i,nth H x.toNat=true
  ·rw [decide_eq_true hb,if_pos rfl,Af (by omega),Int.toNat_natCast,Af (by rw [hH];omega),Af (by unfold InI;omega)]
   congr 3
   rw [ht,Bool.eq_iff_iff,decide_eq_true_eq]
   constructor
   ·intro h1 x hm
    rcases List.mem_append.1 hm with hm | hm
    ·exact hb x hm
    ·rw [List.mem_singleton.1 hm];exact h1
   ·intro h1;exact h1 _ (by simp)
  ·rw [decide_eq_false hb,if_neg (by simp),Af (by unfold InI;omega)]
   congr 3
   refine (decide_eq_false fun h1=>hb fun x hm=>h1 x ?_).symm
   rw [ht];exact List.mem_append_left _ hm) (by
  unfold Er
  dsimp only
  rw [if_neg (by omega),List.take_length])
 simpa using key
theorem A7v {n:Nat} (h:ReadyA a n) {H:List Bool} (hH:H.length=n) {i:Nat} (hi:i<a.Ops.length) {H0:List Bool} (hl:H0.length=n) :
  ∃K,Al (F3 a H (i:Int)) (0,H0)=some K∧K.length=n ∧ ∀z,nth K z=true↔nth H0 z=true ∨ ∃k,k<(nth a.Ops i).Table.length∧Ahf a i k (nth H)∧z=Ajj a i k:=by
 obtain ⟨r,hr,hr3,_,htab,h512,hargs⟩:=h.op hi
 refine Cn (body:=F3 a H (i:Int)) (fun s => ∃k:Nat,s.1=(k:Int)∧k≤(nth a.Ops i).Table.length∧s.2.length=n ∧ ∀z,nth s.2 z=true↔nth H0 z=true ∨ ∃j,j<k∧Ahf a i j (nth H)∧z=Ajj a i j)
  (fun s=>(nth a.Ops i).Table.length-s.1.toNat) _ (fun s hs=> ?_) ⟨0,rfl,Nat.zero_le _,hl,fun z=>⟨.inl,fun hz=>hz.resolve_right (by rintro ⟨j,hj,_⟩;omega)⟩⟩
 obtain ⟨x,K⟩:=s
 obtain ⟨k,hk,hkl,h1,h2⟩:=hs
 simp only at hk hkl h1 h2
 subst hk
 unfold F3
 dsimp only
 rw [Af (by omega),Int.toNat_natCast]
 by_cases hlt:k<(nth a.Ops i).Table.length
 ·left
  obtain ⟨ev,hv⟩:=h.val hi hlt
  have hal:=K0 n r k
  rw [if_pos (by omega),Af (by omega),hr,h.sz,Aaq h.pos h.le hr3 (by omega)]
  simp only [Option.bind_some]
  rw [A7r hH (Q9 h.pos r k) (by omega)]
  simp only [Option.bind_some]
  by_cases ha:Ama n r k (nth H)
  ·rw [decide_eq_true (show ∀x∈Jm n r k,nth H x.toNat=true from ha),if_pos rfl,Af (by omega),Af (by omega),Int.toNat_natCast,ev,Af (by rw [h1];omega),Int.toNat_natCast,Af (by unfold InI;omega)]
   have hvl:Ajj a i k<K.length:=by rw [h1];exact hv
   refine ⟨_,rfl,⟨k+1,rfl,hlt,by rw [List.length_set];exact h1,fun z=> ?_⟩,by simp only;omega⟩
   rw [A1j hvl,h2]
   constructor
   ·rintro (rfl | hz | ⟨j,hj,hb,e⟩)
    ·exact .inr ⟨k,by omega,(hargs _ _).2 ha,rfl⟩
    ·exact .inl hz
    ·exact .inr ⟨j,by omega,hb,e⟩
   ·rintro (hz | ⟨j,hj,hb,e⟩)
    ·exact .inr (.inl hz)
    ·by_cases ej:j=k
     ·subst ej;exact .inl e
     ·exact .inr (.inr ⟨j,by omega,hb,e⟩)
  ·rw [decide_eq_false (show ¬ ∀x∈Jm n r k,nth H x.toNat=true from ha),if_neg (by simp),Af (by unfold InI;omega)]
   refine ⟨_,rfl,⟨k+1,rfl,hlt,h1,fun z=> ?_⟩,by simp only;omega⟩
   simp only
   rw [h2]
   constructor
   ·rintro (hz | ⟨j,hj,hb,e⟩)
    ·exact .inl hz
    ·exact .inr ⟨j,by omega,hb,e⟩
   ·rintro (hz | ⟨j,hj,hb,e⟩)
    ·exact .inl hz
    ·by_cases ej:j=k
     ·subst ej;exact absurd ((hargs _ _).1 hb) ha
     ·exact .inr ⟨j,by omega,hb,e⟩
 ·right
  rw [if_neg (by omega)]
  have e:k=(nth a.Ops i).Table.length:=by omega
  subst e
  exact ⟨_,rfl,h1,h2⟩
theorem A20 {n:Nat} (h:ReadyA a n) {H:List Bool} (hH:H.length=n) :
  ∃K,La a H=some K∧K.length=n ∧ ∀z,nth K z=true↔nth H z=true ∨ ∃i k,i<a.Ops.length∧k<(nth a.Ops i).Table.length∧Ahf a i k (nth H)∧z=Ajj a i k:=by
 have hL:=Ay
 have h4:=h.good.2.2.1
 have h8:=h.le
 unfold La
 rw [Af (by simp only [List.length_nil];omega)]
 obtain ⟨K,e,h1,h2⟩:=Cn (body:=Hm a H) (fun s => ∃i:Nat,s.1=(i:Int)∧i≤a.Ops.length∧s.2.length=n ∧ ∀z,nth s.2 z=true↔nth H z=true ∨ ∃j k,j<i∧k<(nth a.Ops j).Table.length∧Ahf a j k (nth H)∧z=Ajj a j k)
  (fun s=>a.Ops.length-s.1.toNat) (fun K=>K.length=n ∧ ∀z,nth K z=true↔nth H z=true ∨ ∃i k,i<a.Ops.length∧k<(nth a.Ops i).Table.length∧Ahf a i k (nth H)∧z=Ajj a i k) (fun s hs=>by
  obtain ⟨x,K⟩:=s
  obtain ⟨i,hi,hil,h1,h2⟩:=hs
  simp only at hi hil h1 h2
  subst hi
  unfold Hm
  dsimp only
  by_cases hlt:i<a.Ops.length
  ·left
   obtain ⟨K1,e1,h3,h5⟩:=A7v h hH hlt h1
   rw [if_pos (by omega),e1]
   simp only [Option.bind_some]
   rw [Af (by unfold InI;omega)]
   refine ⟨_,rfl,⟨i+1,rfl,hlt,h3,fun z=> ?_⟩,by simp only;omega⟩
   simp only
   rw [h5,h2]
   constructor
   ·rintro ((hz | ⟨j,k,a1,a2,a3,a4⟩) | ⟨k,a2,a3,a4⟩)
    ·exact .inl hz
    ·exact .inr ⟨j,k,by omega,a2,a3,a4⟩
    ·exact .inr ⟨i,k,by omega,a2,a3,a4⟩
   ·rintro (hz | ⟨j,k,a1,a2,a3,a4⟩)
    ·exact .inl (.inl hz)
    ·by_cases ej:j=i
     ·subst ej;exact .inr ⟨k,a2,a3,a4⟩
     ·exact .inl (.inr ⟨j,k,by omega,a2,a3,a4⟩)
  ·right
   rw [if_neg (by omega)]
   have e:i=a.Ops.length:=by omega
   subst e
   exact ⟨_,rfl,h1,h2⟩) (s:=((0:Int),Ao Bool++H)) ⟨0,rfl,Nat.zero_le _,hH,fun z=>⟨.inl,fun hz=>hz.resolve_right (by rintro ⟨j,_,hj,_⟩;omega)⟩⟩
 rw [e]
 exact ⟨K,rfl,h1,h2⟩
theorem A64 {n:Nat} (hn:n≤LIM) {xs:List Int} (hx:Ce xs n) (hl:xs.length≤LIM):Pg n xs=some (Na n fun z=>decide ((z:Int)∈xs)):=by
 unfold Pg
 have hn':=hn
 rw [Ay] at hl hn'
 rw [Af (by rw [Ay];omega)]
 have key:=C4 (body:=He xs) (fun i=>((i:Int),Na n fun z=>decide ((z:Int)∈xs.take i))) xs.length (Na n fun z=>decide ((z:Int)∈xs)) (fun i hi=>by
  unfold He
  dsimp only
  have hc:=hx _ (Az hi)
  have hlen:=J2 n fun z=>decide ((z:Int)∈xs.take i)
  rw [if_pos (by omega),Af (by omega),Int.toNat_natCast,Af (by rw [hlen];omega),Af (by unfold InI;omega),Adu (by omega)]
  congr 3
  refine H6 fun z _=> ?_
  rw [Hf hi]
  by_cases hz:z=(nth xs i).toNat
  ·rw [if_pos hz]
   refine (decide_eq_true ?_).symm
   rw [List.mem_append,List.mem_singleton];right;omega
  ·rw [if_neg hz,decide_eq_decide,List.mem_append,List.mem_singleton]
   exact ⟨.inl,fun h=>h.resolve_right (by omega)⟩) (by
  unfold He
  dsimp only
  rw [if_neg (by omega),List.take_length])
 have e0:(Na n fun z=>decide ((z:Int)∈xs.take 0))=List.replicate n false:=by
  rw [Xe];exact H6 fun z _=>by simp
 simp only [e0] at key
 rw [Int.toNat_natCast]
 show (Al _ (((0:Nat):Int),_)).bind _=_
 rw [key];rfl
theorem Azf {n:Nat} (hn:n≤LIM) (S:Nat→Bool):K2 (Na n S)=some (Cj n S):=by
 unfold K2
 have hn':=hn
 rw [Ay] at hn'
 have hl:=J2 n S
 rw [Aj8 n S (fun i acc hi ha=>by
  unfold Hb
  dsimp only
  rw [if_pos (by omega),Af (by omega),Int.toNat_natCast,Lg hi]
  by_cases hp:S i=true
  ·rw [if_pos hp,if_pos hp,Af (by rw [Ay];simp;omega),Af (by unfold InI;omega)];rfl
  ·rw [if_neg hp,if_neg hp,Af (by unfold InI;omega)];rfl) (fun acc=>by
  unfold Hb
  dsimp only
  rw [if_neg (by omega)])]
 rfl
theorem A0g {n:Nat} (h:ReadyA a n) {xs:List Int} (hx:Ce xs n) (hl:xs.length≤LIM):Jf a xs=some (Cj n (Ael a fun z=>decide ((z:Int)∈xs))):=by
 have hL:=Ay
 have h8:=h.le
 generalize hS:(fun z:Nat=>decide ((z:Int)∈xs))=S
 have hSn : ∀z,S z=true→z<n:=fun z hz=>by
  subst hS
  have:=hx _ (of_decide_eq_true hz);omega
 have hb:=J2 n S
 have hin : ∀z,nth (Na n S) z=true↔S z=true:=fun z=>by
  constructor
  ·intro hz
   have hl:=A41 hz
   rw [hb] at hl
   rwa [Lg hl] at hz
  ·intro hz;rw [Lg (hSn z hz)];exact hz
 unfold Jf
 rw [h.sz,A64 (by omega) hx hl,hS]
 simp only [Option.bind_some]
 obtain ⟨H,e,h1,h2,h3,h4⟩:=Cn (body:=Gt a) (fun s => ∃j:Nat,s.1=(j:Int)∧j≤n+1∧s.2.length=n∧(∀z,S z=true→nth s.2 z=true)∧(∀z,nth s.2 z=true→Ael a S z=true)∧(Tp a (nth s.2)∨j≤Ak3 s.2))
  (fun s=>(n+1)-s.1.toNat) (fun H=>H.length=n∧(∀z,S z=true→nth H z=true)∧(∀z,nth H z=true→Ael a S z=true)∧Tp a (nth H)) (fun s hs=>by
  obtain ⟨x,H⟩:=s
  obtain ⟨j,hj,hjn,h1,h2,h3,h4⟩:=hs
  simp only at hj hjn h1 h2 h3 h4
  subst hj
  unfold Gt
  dsimp only
  rw [h.sz]
  have hcl:=A33 H
  by_cases hlt:j≤n
  ·left
   obtain ⟨K,eK,k1,k2⟩:=A20 h h1
   rw [if_pos (by omega),eK]
   simp only [Option.bind_some]
   rw [Af (by unfold InI;omega)]
   have hmore : ∀z,nth H z=true→nth K z=true:=fun z hz=>(k2 z).2 (.inl hz)
   refine ⟨_,rfl,⟨j+1,rfl,by omega,k1,fun z hz=>hmore z (h2 z hz),fun z hz=> ?_,?_⟩,by simp only;omega⟩
   ·rcases (k2 z).1 hz with hz | ⟨i,k,a1,a2,a3,a4⟩
    ·exact h3 z hz
    ·rw [a4];exact Ahj i a1 k a2 (Ahs h3 a3)
   ·simp only
    obtain ⟨m1,m2⟩:=A0v (h1.trans k1.symm) hmore
    by_cases hc:Tp a (nth H)
    ·left
     have:H=K:=by
      refine T8 (h1.trans k1.symm) fun z hz=> ?_
      rw [Bool.eq_iff_iff,k2]
      constructor
      ·exact .inl
      ·rintro (hz | ⟨i,k,a1,a2,a3,a4⟩)
       ·exact hz
       ·rw [a4];exact hc i a1 k a2 a3
     rw [←this];exact hc
    ·right
     have hj:=h4.resolve_left hc
     apply Classical.byContradiction
     intro hno
     have e:=m2 (by omega)
     refine hc fun i a1 k a2 a3=> ?_
     rw [e]
     exact (k2 _).2 (.inr ⟨i,k,a1,a2,a3,rfl⟩)
  ·right
   rw [if_neg (by omega)]
   exact ⟨_,rfl,h1,h2,h3,h4.resolve_right (by omega)⟩) (s:=((0:Int),Na n S)) ⟨0,rfl,by omega,hb,fun z hz=>(hin z).2 hz,fun z hz=>Afo z ((hin z).1 hz),.inr (Nat.zero_le _)⟩
 rw [e]
 simp only [Option.bind_some]
 have eH:H=Na n (Ael a S):=by
  refine T8 (by rw [h1,J2]) fun z hz=> ?_
  rw [h1] at hz
  rw [Lg hz]
  cases hh:Ael a S z with
  | true=>exact Akq h2 h4 z hh
  | false=>
    cases h5:nth H z with
    | false=>rfl
    | true=>rw [h3 z h5] at hh;cases hh
 rw [eH,Azf (by omega)];rfl
theorem A59 {n:Nat} (h:ReadyA a n) {xs:List Int} (hl:xs.length≤LIM):Pu a xs=some (decide (Zf a n xs)):=by
 have hL:=Ay
 have h8:=h.le
 unfold Pu
 rw [h.sz,Af (by unfold InI;omega),Avn _ _ _ hl]
 simp only [Option.bind_some]
 by_cases hr:Ap4 xs 0 (n-1)
 ·obtain ⟨h3,h4⟩:=(Amd xs n).1 hr
  rw [decide_eq_true hr,if_pos rfl,A0g h h4 hl]
  simp only [Option.bind_some]
  have hsl:=Re n (Ael a fun z=>decide ((z:Int)∈xs))
  rw [Ae7 (by omega)]
  simp only [Option.bind_some]
  congr 1
  rw [decide_eq_decide]
  exact ⟨fun hc=>⟨h4,h3,hc⟩,fun hc=>hc.2.2⟩
 ·rw [decide_eq_false hr,if_neg (by simp),decide_eq_false]
  rintro ⟨h4,h3,_⟩
  exact hr ((Amd xs n).2 ⟨h3,h4⟩)
theorem Awp {n:Nat} (h:ReadyA a n) {xs:List Int}:Zf a n xs↔Ce xs n∧Zb xs∧Tp a fun z=>decide ((z:Int)∈xs):=by
 constructor
 ·rintro ⟨h1,h2,h3⟩
  refine ⟨h1,h2,fun i hi k hk ha=> ?_⟩
  have hv:=(h.val hi hk).2
  have h4:Ael a (fun z=>decide ((z:Int)∈xs)) (Ajj a i k)=true:=Ahj i hi k hk (Ahs (fun z hz=>Afo z hz) ha)
  have h5:((Ajj a i k:Nat):Int)∈Cj n (Ael a fun z=>decide ((z:Int)∈xs)):=Oi.2 ⟨_,hv,h4,rfl⟩
  rw [h3] at h5
  exact decide_eq_true h5
 ·rintro ⟨h1,h2,h3⟩
  exact ⟨h1,h2,by rw [A0q h3];exact Awh h1 h2⟩
end
end Go.Proofs.Ytmkgjnphianalaa.Ax
namespace Go.Proofs.Ytmkgjnphianalaa.Ax
open Go Classical
theorem Ax9 {α β:Type} {o:Option α} {k:α→Option β} {Q:α→Prop} {R:β→Prop} (h : ∃a,o=some a∧Q a) (h2 : ∀a,Q a → ∃b,k a=some b∧R b) : ∃b,o.bind k=some b∧R b:=by
 obtain ⟨a,e,hq⟩:=h
 rw [e];exact h2 a hq
theorem A7f {β:Type} {c:Prop} [Decidable c] {x y:Option β} {R:β→Prop} (h1:c → ∃b,x=some b∧R b) (h2:¬c → ∃b,y=some b∧R b) : ∃b,(if c then x else y)=some b∧R b:=by
 split
 ·exact h1 ‹_›
 ·exact h2 ‹_›
def Ht (a:SAlgebra):Prop:=a.Ops.length≤10 ∧ ∀f∈a.Ops,f.Table.length≤101
theorem Hu {a:SAlgebra} (h:Ht a):F8 a:=⟨by have:=h.1;omega,fun f hf=>by have:=h.2 f hf;omega⟩
theorem At0 (s:ByteArray) (hs:s.size≤100) : ∃f,Bh s=some f∧f.Table.length≤100:=by
 have hL:=Ay
 unfold Bh
 obtain ⟨f,e,hf⟩:=Cn (body:=Gf s) (fun t => ∃j:Nat,t.1=(j:Int)∧j≤s.size∧t.2.Table.length≤j) (fun t=>s.size-t.1.toNat) (fun f=>f.Table.length≤100) (fun t ht=>by
  obtain ⟨x4,x3⟩:=t
  obtain ⟨j,g1,g2,g3⟩:=ht
  simp only at g1 g2 g3
  subst g1
  unfold Gf
  dsimp only
  by_cases hj:(j:Int)<(s.size:Int)
  ·left
   rw [if_pos hj,Af (by omega),Af (by simp;omega),Af (by unfold InI;omega)]
   exact ⟨_,rfl,⟨j+1,rfl,by omega,by simp;omega⟩,by simp only;omega⟩
  ·right
   rw [if_neg hj]
   exact ⟨_,rfl,by omega⟩) (s:=((0:Int),({ Arity:=2,Table:=Ao Int }:SOp))) ⟨0,rfl,Nat.zero_le _,by simp [Ao]⟩
 rw [e]
 exact ⟨_,rfl,hf⟩
theorem At7 {n:Int} (hn:n=2∨n=3) : ∃f,Gl n=some f∧f.Table.length≤100:=by
 have hL:=Ay
 unfold Gl
 obtain ⟨f,e,hf⟩:=Cn (body:=F7 n) (fun t => ∃j:Nat,t.1=(j:Int)∧j≤27∧t.2.Table.length≤j) (fun t=>27-t.1.toNat) (fun f=>f.Table.length≤100) (fun t ht=>by
  obtain ⟨x4,x3⟩:=t
  obtain ⟨j,g1,g2,g3⟩:=ht
  simp only at g1 g2 g3
  subst g1
  unfold F7
  dsimp only
  have d1 : ∀m:Int,(j:Int).tdiv m=(j:Int)/m:=fun m=>Int.tdiv_eq_ediv_of_nonneg (by omega)
  have d2 : ∀m:Int,(j:Int).tmod m=(j:Int)%m:=fun m=>Int.tmod_eq_emod_of_nonneg (by omega)
  rw [d1,d1,d2]
  rcases hn with rfl | rfl
  ·have d3:((j:Int)/2).tmod 2=((j:Int)/2)%2:=Int.tmod_eq_emod_of_nonneg (by omega)
   rw [d3]
   by_cases hj:(j:Int)<2*2*2
   ·left
    rw [Af (by unfold InI;omega),Af (by unfold InI;omega),if_pos hj]
    rw [Af (by unfold InI;omega),Af (by unfold InI;omega),Af (by unfold InI;omega),Af (by unfold InI;omega),Af (by omega),Af (by unfold InI;omega),Af (by omega),Af (by unfold InI;omega),Af (by omega),Af (by simp;omega),Af (by unfold InI;omega)]
    exact ⟨_,rfl,⟨j+1,rfl,by omega,by simp;omega⟩,by simp only;omega⟩
   ·right
    rw [Af (by unfold InI;omega),Af (by unfold InI;omega),if_neg hj]
    exact ⟨_,rfl,by omega⟩
  ·have d3:((j:Int)/3).tmod 3=((j:Int)/3)%3:=Int.tmod_eq_emod_of_nonneg (by omega)
   rw [d3]
   by_cases hj:(j:Int)<3*3*3
   ·left
    rw [Af (by unfold InI;omega),Af (by unfold InI;omega),if_pos hj]
    rw [Af (by unfold InI;omega),Af (by unfold InI;omega),Af (by unfold InI;omega),Af (by unfold InI;omega),Af (by omega),Af (by unfold InI;omega),Af (by omega),Af (by unfold InI;omega),Af (by omega),Af (by simp;omega),Af (by unfold InI;omega)]
    exact ⟨_,rfl,⟨j+1,rfl,by omega,by simp;omega⟩,by simp only;omega⟩
   ·right
    rw [Af (by unfold InI;omega),Af (by unfold InI;omega),if_neg hj]
    exact ⟨_,rfl,by omega⟩) (s:=((0:Int),({ Arity:=3,Table:=Ao Int }:SOp))) ⟨0,rfl,Nat.zero_le _,by simp [Ao]⟩
 rw [e]
 exact ⟨_,rfl,hf⟩
theorem Arj (k:Int) : ∃a,Jn k=some a∧Ht a:=by
 have fin0 : ∀ {z:Int},Ht { Size:=z,Ops:=Ao SOp }:=⟨by simp [Ao],fun f hf=>by simp [Ao] at hf⟩
 have fin1 : ∀ {z:Int} {f:SOp},f.Table.length≤100→Ht { Size:=z,Ops:=[f] }:=fun h=>⟨by simp,fun f hf=>by simp at hf;subst hf;omega⟩
 have fin2 : ∀ {z:Int} {f g:SOp},f.Table.length≤100→g.Table.length≤100→Ht { Size:=z,Ops:=[f,g] }:=fun h1 h2=>⟨by simp,fun f hf=>by
  simp only [List.mem_cons,List.not_mem_nil,or_false] at hf
  rcases hf with rfl | rfl<;>omega⟩
 have fin3 : ∀ {z:Int} {f g e:SOp},f.Table.length≤100→g.Table.length≤100→e.Table.length≤100→Ht { Size:=z,Ops:=[f,g,e] }:=fun h1 h2 h3=>⟨by simp,fun f hf=>by
  simp only [List.mem_cons,List.not_mem_nil,or_false] at hf
  rcases hf with rfl | rfl | rfl<;>omega⟩
 unfold Jn
 repeat' (first | refine A7f (fun _=> ?_) (fun _=> ?_) | refine Ax9 (At0 _ (by decide)) fun f hf=> ?_ | refine Ax9 (At7 (by simp)) fun f hf=> ?_)
 all_goals
  first
   | exact ⟨_,rfl,fin0⟩
   | exact ⟨_,rfl,fin1 (by first | assumption | decide)⟩
   | exact ⟨_,rfl,fin2 (by first | assumption | decide) (by first | assumption | decide)⟩
   | exact ⟨_,rfl,fin3 (by first | assumption | decide) (by first | assumption | decide) (by first | assumption | decide)⟩
theorem Q2 {c:Sl1Cur} {k:Nat} (h:Cur k c) (hk:k≤600000000) : ∃a d,Cs c=some (a,d)∧Cur (k+1000) d∧Ht a:=by
 have hL:=Ay
 unfold Cs
 obtain ⟨b,d,e,hd⟩:=Aef h (by omega) 4
 rw [e]
 simp only [Option.bind_some]
 by_cases hb:b=true
 ·rw [if_pos hb]
  obtain ⟨n,d2,e2,hd2,hn⟩:=J4 hd (by omega) [2,2,3,3,4] (by simp)
  rw [e2]
  simp only [Option.bind_some]
  obtain ⟨m,d3,e3,hd3,hm⟩:=J4 hd2 (by omega) [1,1,2] (by simp)
  rw [e3]
  simp only [Option.bind_some]
  obtain ⟨N,rfl,hN⟩ : ∃N:Nat,n=(N:Int)∧2≤N∧N≤4:=⟨n.toNat,by simp at hn;omega,by simp at hn;omega⟩
  obtain ⟨M,rfl,hM⟩ : ∃M:Nat,m=(M:Int)∧1≤M∧M≤2:=⟨m.toNat,by simp at hm;omega,by simp at hm;omega⟩
  obtain ⟨⟨a,d4⟩,e4,⟨ha1,ha2,ha3⟩,hd4⟩:=Cn (body:=Dy (N:Int)) (fun s => ∃j:Nat,s.1=(j:Int)∧j≤M∧s.2.1.Size=(N:Int)∧s.2.1.Ops.length=M-j∧(∀f∈s.2.1.Ops,1≤f.Table.length∧f.Table.length≤64)∧Cur (k+6+200*(M-j)) s.2.2) (fun s=>s.1.toNat)
   (fun t=>(t.1.Size=(N:Int)∧t.1.Ops.length=M ∧ ∀f∈t.1.Ops,1≤f.Table.length∧f.Table.length≤64)∧Cur (k+500) t.2) (fun s hs=>by
   obtain ⟨x6,x5,x1⟩:=s
   obtain ⟨j,g1,g2,g3,g4,g5,g6⟩:=hs
   simp only at g1 g2 g3 g4 g5 g6
   subst g1
   unfold Dy
   dsimp only
   by_cases hj:(j:Int)>0
   ·left
    rw [if_pos hj]
    obtain ⟨r,d5,e5,hd5,hr⟩:=J4 g6 (by omega) [0,1,2,2,3] (by simp)
    rw [e5]
    simp only [Option.bind_some]
    obtain ⟨R,rfl,hR⟩ : ∃R:Nat,r=(R:Int)∧R≤3:=⟨r.toNat,by simp at hr;omega,by simp at hr;omega⟩
    have hop : ∃f:SOp,((if (N:Int)=4 then if (R:Int)=3 then some ({ Arity:=2,Table:=Ao Int }:SOp) else some { Arity:=(R:Int),Table:=Ao Int } else some { Arity:=(R:Int),Table:=Ao Int }:Option SOp))=some f∧f.Table=[] ∧ ∃Q:Nat,f.Arity=(Q:Int)∧1≤N^Q∧N^Q≤64∧Q≤3:=by
     by_cases h4:(N:Int)=4
     ·rw [if_pos h4]
      have h4:N=4:=by omega
      subst h4
      by_cases h3:(R:Int)=3
      ·rw [if_pos h3];exact ⟨_,rfl,rfl,2,rfl,by decide⟩
      ·rw [if_neg h3]
       refine ⟨_,rfl,rfl,R,rfl,?_⟩
       have:R=0∨R=1∨R=2:=by omega
       rcases this with rfl | rfl | rfl<;>decide
     ·rw [if_neg h4]
      refine ⟨_,rfl,rfl,R,rfl,?_⟩
      have h5:N=2∨N=3:=by omega
      have:R=0∨R=1∨R=2∨R=3:=by omega
      rcases h5 with rfl | rfl<;>rcases this with rfl | rfl | rfl | rfl<;>decide
    obtain ⟨f,ef,ht,Q,hQ,q1,q2,q3⟩:=hop
    rw [ef]
    simp only [Option.bind_some]
    rw [hQ,Asc (by omega) q3]
    simp only [Option.bind_some]
    obtain ⟨⟨f2,d6⟩,e6,hf2,hd6⟩:=Cn (body:=Dz (N:Int) (j:Int) x5) (fun s => ∃i:Nat,s.1=(i:Int)∧i≤N^Q∧s.2.1.Table.length=N^Q-i∧Cur (k+6+200*(M-j)+2+2*(N^Q-i)) s.2.2) (fun s=>s.1.toNat) (fun t=>t.1.Table.length=N^Q∧Cur (k+6+200*(M-j)+2+2*N^Q) t.2) (fun s hs=>by
     obtain ⟨x8,x7,x9⟩:=s
     obtain ⟨i,k1,k2,k3,k4⟩:=hs
     simp only at k1 k2 k3 k4
     subst k1
     unfold Dz
     dsimp only
     by_cases hi:(i:Int)>0
     ·left
      rw [if_pos hi]
      obtain ⟨v,d7,e7,hd7,_⟩:=Dm k4 (by omega) (N:Int)
      rw [e7]
      simp only [Option.bind_some]
      rw [Af (by simp;omega),Af (by unfold InI;omega)]
      exact ⟨_,rfl,⟨i-1,by simp only;omega,by omega,by simp;omega,hd7.mono (by omega)⟩,by simp only;omega⟩
     ·right
      rw [if_neg hi]
      exact ⟨_,rfl,by simp only;omega,k4.mono (by omega)⟩) (s:=(((N^Q:Nat):Int),f,d5)) ⟨N^Q,rfl,Nat.le_refl _,by simp [ht],hd5.mono (by omega)⟩
    rw [e6]
    simp only [Option.bind_some]
    rw [Af (by simp;omega),Af (by unfold InI;omega)]
    simp only at hf2 hd6
    refine ⟨_,rfl,⟨j-1,by simp only;omega,by omega,g3,by simp;omega,fun f hf=> ?_,hd6.mono (by omega)⟩,by simp only;omega⟩
    rcases List.mem_append.1 hf with h' | h'
    ·exact g5 f h'
    ·rw [List.mem_singleton.1 h'];omega
   ·right
    rw [if_neg hj]
    exact ⟨_,rfl,⟨g3,by simp only;omega,g5⟩,g6.mono (by omega)⟩) (s:=((M:Int),({ Size:=(N:Int),Ops:=Ao SOp }:SAlgebra),d3)) ⟨M,rfl,Nat.le_refl _,rfl,by simp [Ao],fun f hf=>by simp [Ao] at hf,hd3.mono (by omega)⟩
  rw [e4]
  simp only [Option.bind_some]
  simp only at ha1 ha2 ha3 hd4
  have h0:0<a.Ops.length:=by omega
  have hf0:=ha3 _ (Az h0)
  have ht:Ht a:=⟨by omega,fun f hf=>by have:=ha3 f hf;omega⟩
  have hset : ∀ {z:Int} {f:SOp},f.Table.length≤101→Ht { Size:=z,Ops:=a.Ops.set (Int.toNat 0) f }:=fun hf=>⟨by simp;omega,fun g hg=>by
   rcases List.mem_or_eq_of_mem_set hg with h' | h'
   ·have:=ha3 g h';omega
   ·rw [h'];exact hf⟩
  obtain ⟨w,d5,e5,hd5,w0,_⟩:=Dm hd4 (by omega) 16
  rw [e5]
  simp only [Option.bind_some]
  by_cases c0:w=0
  ·rw [if_pos c0,Af (by unfold InI;omega)]
   obtain ⟨r,d6,e6,hd6,_⟩:=J4 hd5 (by omega) [0,9,(N:Int)+1] (by simp)
   rw [e6]
   exact ⟨_,_,rfl,hd6.mono (by omega),ht⟩
  rw [if_neg c0]
  by_cases c1:w=1
  ·rw [if_pos c1,Af (by omega),Af (by simp only [Int.toNat_zero,List.length_singleton];omega)]
   exact ⟨_,_,rfl,hd5.mono (by omega),hset (by simp only [Int.toNat_zero,List.length_append,List.length_singleton];omega)⟩
  rw [if_neg c1]
  by_cases c2:w=2
  ·rw [if_pos c2,Af (by omega)]
   obtain ⟨r,d6,e6,hd6,r0,r1⟩:=Dm hd5 (by omega) ((nth a.Ops (Int.toNat 0)).Table.length:Int)
   rw [e6]
   simp only [Option.bind_some]
   obtain ⟨s,d7,e7,hd7,_⟩:=J4 hd6 (by omega) [-1,(N:Int)] (by simp)
   rw [e7]
   simp only [Option.bind_some]
   simp only [Int.toNat_zero] at r1 ⊢
   rw [Af (by omega)]
   exact ⟨_,_,rfl,hd7.mono (by omega),hset (by simp only [List.length_set];omega)⟩
  rw [if_neg c2]
  by_cases c3:w=3
  ·rw [if_pos c3]
   obtain ⟨r,d6,e6,hd6,_⟩:=J4 hd5 (by omega) [-1,4] (by simp)
   rw [e6]
   simp only [Option.bind_some]
   rw [Af (by omega)]
   exact ⟨_,_,rfl,hd6.mono (by omega),hset (by simp only [Int.toNat_zero];omega)⟩
  rw [if_neg c3]
  by_cases c4:w=4
  ·rw [if_pos c4]
   obtain ⟨⟨a2,d6⟩,e6,ht2,hd6⟩:=Cn (body:=D3 (N:Int)) (fun s=>s.1.Ops.length≤5∧(∀f∈s.1.Ops,f.Table.length≤64)∧Cur (k+502+2*s.1.Ops.length) s.2) (fun s=>5-s.1.Ops.length) (fun t=>Ht t.1∧Cur (k+600) t.2) (fun s hs=>by
    obtain ⟨x5,x1⟩:=s
    obtain ⟨g1,g2,g3⟩:=hs
    simp only at g1 g2 g3
    unfold D3
    dsimp only
    obtain ⟨r,d7,e7,hd7,r0,r1⟩:=Dm g3 (by omega) 2
    rw [e7]
    simp only [Option.bind_some]
    rw [Af (by unfold InI;omega)]
    by_cases hl:(x5.Ops.length:Int)<4+r
    ·left
     rw [if_pos hl,Af (by omega),Af (by simp;omega)]
     refine ⟨_,rfl,⟨by simp;omega,fun f hf=> ?_,hd7.mono (by simp;omega)⟩,by simp;omega⟩
     rcases List.mem_append.1 hf with h' | h'
     ·exact g2 f h'
     ·rw [List.mem_singleton.1 h'];simp;omega
    ·right
     rw [if_neg hl]
     exact ⟨_,rfl,⟨by simp only;omega,fun f hf=>by have:=g2 f hf;omega⟩,hd7.mono (by omega)⟩) (s:=(a,d5)) ⟨by simp only;omega,fun f hf=>(ha3 f hf).2,hd5.mono (by omega)⟩
   rw [e6]
   exact ⟨_,_,rfl,hd6.mono (by omega),ht2⟩
  rw [if_neg c4]
  exact ⟨_,_,rfl,hd5.mono (by omega),ht⟩
 ·rw [if_neg hb]
  obtain ⟨r,d2,e2,hd2,_⟩:=Dm hd (by omega) 17
  rw [e2]
  simp only [Option.bind_some]
  obtain ⟨a,e3,ht⟩:=Arj r
  rw [e3]
  exact ⟨_,_,rfl,hd2.mono (by omega),ht⟩
theorem Ayo {code:List Int} (hc : ∀x∈code,0≤x∧x≤255) (hl:code.length≤65536):Cur 0 ({ code:=code,at_:=0,seed:=0 }:Sl1Cur):=⟨hc,hl,Int.le_refl _,Int.le_refl _⟩
end Go.Proofs.Ytmkgjnphianalaa.Ax
namespace Go.Proofs.Ytmkgjnphianalaa.Ax
open Go Classical
theorem Ag4 {xs:List Int} (h:xs.length≤LIM):Ft xs=some xs:=by
 unfold Ft
 rw [Af (by show 0+xs.length≤_;omega)];rfl
theorem Aed {xs:List Int} (h:xs.length≤LIM):D7 xs xs=some true:=by
 have hL:=Ay
 unfold D7
 rw [if_neg (by simp)]
 have:=C4 (body:=Cy xs xs) (fun i=>(i:Int)) xs.length (.inr ()) (fun i hi=>by
  unfold Cy
  rw [if_pos (by omega)]
  repeat rw [Af (by first | omega | (unfold InI;omega))]
  rw [if_neg (by simp)]
  repeat rw [Af (by first | omega | (unfold InI;omega))]
  rfl) (by
  unfold Cy
  rw [if_neg (by omega)])
 have h0:Al (Cy xs xs) 0=some (.inr ()):=this
 rw [h0];rfl
def Aqv (a b:SAlgebra) (f:List Int) (n m i k:Nat):Prop:=i<a.Ops.length∧k<(nth a.Ops i).Table.length∧Fq a b f n m i k ∧
 (∀j,j<i → ∀l,l<(nth a.Ops j).Table.length→¬Fq a b f n m j l) ∧ ∀l,l<k→¬Fq a b f n m i l
section
variable {a b:SAlgebra} {f:List Int} {n m:Nat}
theorem Aqv.faulty {i k:Nat} (h:Aqv a b f n m i k):faulty a b f n m:=⟨i,h.1,k,h.2.1,h.2.2.1⟩
theorem Awo {τ1 τ2 τ:Type} (body1:Int→Int→Option (Int ⊕ (τ1 ⊕ Unit))) (body2:Int→Option (Int ⊕ (τ2 ⊕ Unit))) (res1:Nat→Nat→τ1) (res2:Nat→τ1→τ2)
  (h1 : ∀i,i<a.Ops.length → ∀k,k<(nth a.Ops i).Table.length→body1 (i:Int) (k:Int)=if Fq a b f n m i k then some (.inr (.inl (res1 i k))) else some (.inl ((k+1:Nat):Int)))
  (h1e : ∀i,i<a.Ops.length→body1 (i:Int) ((nth a.Ops i).Table.length:Int)=some (.inr (.inr ())))
  (h2 : ∀i,i<a.Ops.length→body2 (i:Int)=(Al (body1 (i:Int)) 0).bind fun t=>match t with | .inl q=>some (.inr (.inl (res2 i q))) | .inr _=>some (.inl ((i+1:Nat):Int)))
  (h2e:body2 (a.Ops.length:Int)=some (.inr (.inr ()))) (out:τ2 ⊕ Unit→Option τ) :
  (∃i k,Aqv a b f n m i k∧(Al body2 0).bind out=out (.inl (res2 i (res1 i k))))∨(¬faulty a b f n m∧(Al body2 0).bind out=out (.inr ())):=by
 have inner : ∀i,i<a.Ops.length→(∃k,k<(nth a.Ops i).Table.length∧Fq a b f n m i k∧(∀l,l<k→¬Fq a b f n m i l)∧Al (body1 (i:Int)) 0=some (.inl (res1 i k))) ∨
   ((∀k,k<(nth a.Ops i).Table.length→¬Fq a b f n m i k)∧Al (body1 (i:Int)) 0=some (.inr ())):=by
  intro i hi
  exact Aav (body:=body1 (i:Int)) (fun k=>(k:Int)) (nth a.Ops i).Table.length (Fq a b f n m i) (fun k=> .inl (res1 i k)) (.inr ()) (fun k hk hh=>by rw [h1 i hi k hk,if_neg hh]) (fun k hk hh=>by rw [h1 i hi k hk,if_pos hh]) (h1e i hi)
 have inner2 : ∀i,∃q:Nat,i<a.Ops.length→(∃k,k<(nth a.Ops i).Table.length∧Fq a b f n m i k)→q<(nth a.Ops i).Table.length∧Fq a b f n m i q∧(∀l,l<q→¬Fq a b f n m i l)∧Al (body1 (i:Int)) 0=some (.inl (res1 i q)):=by
  intro i
  by_cases hi:i<a.Ops.length
  ·rcases inner i hi with ⟨k,h3⟩ | ⟨hno,_⟩
   ·exact ⟨k,fun _ _=>h3⟩
   ·exact ⟨0,fun _ ⟨k,hk,hx⟩=>absurd hx (hno k hk)⟩
  ·exact ⟨0,fun hh=>absurd hh hi⟩
 obtain ⟨q,hq⟩ : ∃q:Nat→Nat,∀i,i<a.Ops.length→(∃k,k<(nth a.Ops i).Table.length∧Fq a b f n m i k)→q i<(nth a.Ops i).Table.length∧Fq a b f n m i (q i)∧(∀l,l<q i→¬Fq a b f n m i l)∧Al (body1 (i:Int)) 0=some (.inl (res1 i (q i))):=
  ⟨fun i=>Classical.choose (inner2 i),fun i=>Classical.choose_spec (inner2 i)⟩
 rcases Aav (body:=body2) (fun i=>(i:Int)) a.Ops.length (fun i => ∃k,k<(nth a.Ops i).Table.length∧Fq a b f n m i k) (fun i=> .inl (res2 i (res1 i (q i)))) (.inr ()) (fun i hi hh=>by
   rw [h2 i hi]
   rcases inner i hi with ⟨k,hk,hx,_⟩ | ⟨_,e⟩
   ·exact absurd ⟨k,hk,hx⟩ hh
   ·rw [e];rfl) (fun i hi hh=>by
   rw [h2 i hi,(hq i hi hh).2.2.2];rfl) h2e with ⟨i,hi,hh,hmin,e⟩ | ⟨hno,e⟩
 ·left
  obtain ⟨q1,q2,q3,_⟩:=hq i hi hh
  refine ⟨i,q i,⟨hi,q1,q2,fun j hj l hl hx=>hmin j hj ⟨l,hl,hx⟩,q3⟩,?_⟩
  rw [show ((0:Int))=(((0:Nat)):Int) from rfl,e];rfl
 ·right
  refine ⟨fun ⟨i,hi,hh⟩=>hno i hi hh,?_⟩
  rw [show ((0:Int))=(((0:Nat)):Int) from rfl,e];rfl
theorem Av9 (h:Homs a b f n m):(∃i k,Aqv a b f n m i k∧Hr a b f=some ((i:Int),(k:Int)))∨(¬faulty a b f n m∧Hr a b f=some (-1,0)):=by
 obtain ⟨hn,hn8,_,hm⟩:=h.pos
 have hop4:=h.ga.2.2.1
 unfold Hr
 refine Awo (Fb a b f) (Fd a b f) (fun _ k=>(k:Int)) (fun i q=>(q,(i:Int))) ?_ ?_ ?_ ?_ _
 ·intro i hi k hk
  obtain ⟨r,hr,e1,e2,l1,l2,t1,l3⟩:=h.op hi
  have hops:=h.ops
  have hv:=t1 _ (Az hk)
  have hlen:=h.len
  obtain ⟨c,hc1,hc2⟩:=h.low (k:=k) hr
  unfold Fb
  rw [Int.toNat_natCast,if_pos (by omega),Af (by omega),Int.toNat_natCast,Af (by omega),Af (by omega),e1,Arx hn hm h.sa h.sb h.len h.fin hr (by omega)]
  simp only [Option.bind_some]
  rw [Af (by rw [hc1,l2];omega)]
  have er:(nth a.Ops i).Arity.toNat=r:=by omega
  by_cases hF:Fq a b f n m i k
  ·have hF':=hF
   unfold Fq at hF'
   rw [er] at hF'
   rw [if_pos hF',if_pos hF]
  ·have hF':=hF
   unfold Fq at hF'
   rw [er] at hF'
   rw [if_neg hF',if_neg hF,Af (by unfold InI;omega)];rfl
 ·intro i hi
  unfold Fb
  rw [Int.toNat_natCast,if_neg (by omega)]
 ·intro i hi
  unfold Fd
  rw [if_pos (by omega),Af (by omega)]
  congr 1
  funext t
  cases t with
  | inl q=>rfl
  | inr u=>dsimp only;rw [Af (by unfold InI;omega)];rfl
 ·unfold Fd
  rw [if_neg (by omega)]
end
def Ko (a b:SAlgebra):Prop:=C5 a∧C5 b∧Dg a=Dg b
def A1r (a b:SAlgebra) (f:List Int):Prop:=(f.length:Int)=a.Size∧Ce f b.Size
def Uz (a b:SAlgebra) (f:List Int):Prop:=Ko a b∧A1r a b f∧¬faulty a b f a.Size.toNat b.Size.toNat
section
variable {a b:SAlgebra} {f:List Int}
theorem Axn (h:Ko a b) (h2:A1r a b f):Homs a b f a.Size.toNat b.Size.toNat:=by
 have h3:=h.1.1
 have h4:=h.2.1.1
 exact ⟨h.1,h.2.1,h.2.2,by omega,by omega,by have:=h2.1;omega,by rw [show ((b.Size.toNat:Nat):Int)=b.Size by omega];exact h2.2⟩
theorem A4r (hl:f.length≤LIM):Mt a b f=some (decide (A1r a b f)):=by
 unfold Mt
 by_cases h1:(f.length:Int)=a.Size
 ·rw [if_pos h1,Atg _ _ hl]
  simp only [Option.bind_some]
  congr 1
  rw [decide_eq_decide]
  exact ⟨fun h=>⟨h1,h⟩,fun h=>h.2⟩
 ·rw [if_neg h1,decide_eq_false (show ¬A1r a b f from fun h=>h1 h.1)]
theorem A4y (h:Ko a b) (hl:f.length≤LIM):Mz a b f=some (decide (Uz a b f)):=by
 unfold Mz
 rw [A4r hl]
 simp only [Option.bind_some]
 by_cases hm:A1r a b f
 ·rw [decide_eq_true hm,if_pos rfl]
  rcases Av9 (Axn h hm) with ⟨i,k,hf,e⟩ | ⟨hf,e⟩
  ·rw [e,decide_eq_false (show ¬Uz a b f from fun hh=>hh.2.2 hf.faulty)]
   simp only [Option.bind_some]
   rw [decide_eq_false (by omega)]
  ·rw [e,decide_eq_true (show Uz a b f from ⟨h,hm,hf⟩)]
   rfl
 ·rw [decide_eq_false hm,if_neg (by simp),decide_eq_false (show ¬Uz a b f from fun hh=>hm hh.2.1)]
end
end Go.Proofs.Ytmkgjnphianalaa.Ax
namespace Go.Proofs.Ytmkgjnphianalaa.Ax
open Go Classical
def okF (n m:Nat) (f:List Int):Prop:=f.length=n ∧ ∀x∈f, -1≤x∧x<m
def Be (f:List Int):Nat:=f.countP fun x=>decide (x<0)
theorem okF.set {n m:Nat} {f:List Int} (h:okF n m f) {i:Nat} {y:Int} (hy:0≤y∧y<m):okF n m (f.set i y):=by
 refine ⟨by rw [List.length_set];exact h.1,fun x hx=> ?_⟩
 rcases List.mem_or_eq_of_mem_set hx with h1 | h1
 ·exact h.2 x h1
 ·subst h1;omega
theorem Nv {f:List Int} {i:Nat} (hi:i<f.length) (hf:nth f i<0) {y:Int} (hy:0≤y):Be (f.set i y)<Be f:=by
 unfold Be
 rw [List.countP_set hi]
 have e:f[i]=nth f i:=(G2 hi).symm
 have hp:0<f.countP (fun x=>decide (x<0)):=List.countP_pos_iff.2 ⟨nth f i,Az hi,decide_eq_true hf⟩
 rw [e,if_pos (decide_eq_true hf),if_neg (by simp;omega)]
 omega
section
variable {a b:SAlgebra} {n m:Nat}
structure Pair (a b:SAlgebra) (n m:Nat):Prop where
 al:Ko a b
 sa:a.Size=n
 sb:b.Size=m
theorem Pair.pos (h:Pair a b n m):0<n∧n≤8∧0<m∧m≤8:=by
 have:=h.sa;have:=h.sb;have:=h.al.1.1;have:=h.al.1.2.1;have:=h.al.2.1.1;have:=h.al.2.1.2.1
 omega
theorem Pair.op (h:Pair a b n m) {i:Nat} (hi:i<a.Ops.length):i<b.Ops.length ∧ ∃r:Nat,r≤3∧(nth a.Ops i).Arity=r∧(nth a.Ops i).Table.length=n^r∧(nth b.Ops i).Table.length=m^r∧Ce (nth a.Ops i).Table n∧Ce (nth b.Ops i).Table m∧n^r≤512:=by
 obtain ⟨hn,hn8,hm,hm8⟩:=h.pos
 have H:Homs a b (List.replicate n 0) n m:=⟨h.al.1,h.al.2.1,h.al.2.2,h.sa,h.sb,by simp,fun x hx=>by rw [(List.mem_replicate.1 hx).2];omega⟩
 obtain ⟨r,h1,h2,h3,h4,h5,h6,h7⟩:=H.op hi
 have hib:i<b.Ops.length:=by rw [←H.ops];exact hi
 have hb:=h.al.2.1.2.2.2 _ (Az hib)
 have hmm:b.Size.toNat=m:=by have:=h.sb;omega
 exact ⟨hib,r,h1,h2,h4,h5,h6,by have:=hb.2.2.2;rwa [hmm] at this,h7⟩
theorem A1h (h:Pair a b n m) {i:Nat} (hi:i<a.Ops.length) {f:List Int} (hf:okF n m f) (c:Bool) (K:Nat) (hK:Be f≤K) (hc:c=true→Be f<K) :
  ∃t,Al (B7 a b (i:Int)) (0,c,f)=some t∧(∀q,t = .inr q→okF n m q.2∧Be q.2≤K∧(q.1=true→Be q.2<K)):=by
 obtain ⟨hn,hn8,hm,hm8⟩:=h.pos
 obtain ⟨hib,r,hr,e1,l1,l2,t1,t2,l3⟩:=h.op hi
 have h4:=h.al.1.2.2.1
 refine Cn (body:=B7 a b (i:Int)) (fun s => ∃k:Nat,s.1=(k:Int)∧k≤(nth a.Ops i).Table.length∧okF n m s.2.2∧Be s.2.2≤K∧(s.2.1=true→Be s.2.2<K)) (fun s=>(nth a.Ops i).Table.length-s.1.toNat) (fun t => ∀q,t = .inr q→okF n m q.2∧Be q.2≤K∧(q.1=true→Be q.2<K)) ?_ ⟨0,rfl,Nat.zero_le _,hf,hK,hc⟩
 rintro ⟨x,c,g⟩ ⟨k,rfl,g1,g2,g3,g4⟩
 dsimp only at g2 g3 g4
 unfold B7
 dsimp only
 rw [Af (by omega),Int.toNat_natCast]
 by_cases hk:k<(nth a.Ops i).Table.length
 ·have hv:=t1 _ (Az hk)
  have hal:=K0 n r k
  have hgl:=g2.1
  have hai:=Q9 hn r k
  rw [if_pos (by omega),Af (by omega),e1,h.sa,Aaq hn hn8 hr (by omega)]
  simp only [Option.bind_some]
  rw [Amc (by omega) (by rw [hgl];exact hai)]
  simp only [Option.bind_some]
  rw [Th _ _ (by have:=Ay;rw [List.length_map];omega)]
  simp only [Option.bind_some]
  by_cases hop:(-1:Int)∈(Jm n r k).map fun x=>nth g x.toNat
  ·rw [decide_eq_true hop,if_pos rfl,Af (by unfold InI;omega)]
   exact .inl ⟨_,rfl,⟨k+1,rfl,by omega,g2,g3,g4⟩,by first | omega | (dsimp only;omega)⟩
  ·rw [decide_eq_false hop,if_neg (by simp),Af (by omega),Af (by omega),Int.toNat_natCast]
   have hin:Ce ((Jm n r k).map fun x=>nth g x.toNat) m:=by
    intro y hy
    obtain ⟨x,hx,rfl⟩:=List.mem_map.1 hy
    have h1:=hai x hx
    have h2:=g2.2 _ (Az (show x.toNat<g.length by omega))
    have h3:nth g x.toNat ≠ -1:=fun he=>hop (List.mem_map.2 ⟨x,hx,he⟩)
    omega
   have hhl:((Jm n r k).map fun x=>nth g x.toNat).length=r:=by rw [List.length_map,hal]
   obtain ⟨p,hp1,hp2,_⟩:=Ka hm8 (xs:=(Jm n r k).map fun x=>nth g x.toNat) (by omega) hin
   rw [hhl] at hp2
   rw [Aqz hm8 h.sb hib (by omega) hin (by rw [hhl];exact l2),hp1,Int.toNat_natCast]
   simp only [Option.bind_some]
   have hw:=t2 _ (Az (show p<(nth b.Ops i).Table.length by omega))
   rw [Af (by omega)]
   by_cases hs:nth g (nth (nth a.Ops i).Table k).toNat≥0
   ·rw [if_pos hs,Af (by omega)]
    by_cases hne:nth g (nth (nth a.Ops i).Table k).toNat≠nth (nth b.Ops i).Table p
    ·rw [if_pos hne]
     exact .inr ⟨_,rfl,fun q hq=>by cases hq⟩
    ·rw [if_neg hne]
     simp only [Option.bind_some]
     rw [Af (by omega),if_neg (by omega),Af (by unfold InI;omega)]
     exact .inl ⟨_,rfl,⟨k+1,rfl,by omega,g2,g3,g4⟩,by first | omega | (dsimp only;omega)⟩
   ·rw [if_neg hs]
    simp only [Option.bind_some]
    rw [Af (by omega),if_pos (by omega),Af (by omega),Af (by unfold InI;omega)]
    have hlt:=Nv (f:=g) (i:=(nth (nth a.Ops i).Table k).toNat) (by omega) (by omega) hw.1
    exact .inl ⟨_,rfl,⟨k+1,rfl,by omega,g2.set hw,by first | omega | (dsimp only;omega),fun _=>by first | omega | (dsimp only;omega)⟩,by first | omega | (dsimp only;omega)⟩
 ·rw [if_neg (by omega)]
  exact .inr ⟨_,rfl,fun q hq=>by cases hq;exact ⟨g2,g3,g4⟩⟩
theorem Az1 (h:Pair a b n m) {f:List Int} (hf:okF n m f) (K:Nat) (hK:Be f≤K) :
  ∃t,Al (B8 a b) (0,false,f)=some t∧(∀q,t = .inr q→okF n m q.2∧Be q.2≤K∧(q.1=true→Be q.2<K)):=by
 have h4:=h.al.1.2.2.1
 refine Cn (body:=B8 a b) (fun s => ∃i:Nat,s.1=(i:Int)∧i≤a.Ops.length∧okF n m s.2.2∧Be s.2.2≤K∧(s.2.1=true→Be s.2.2<K)) (fun s=>a.Ops.length-s.1.toNat) (fun t => ∀q,t = .inr q→okF n m q.2∧Be q.2≤K∧(q.1=true→Be q.2<K)) ?_ ⟨0,rfl,Nat.zero_le _,hf,hK,fun hh=>by cases hh⟩
 rintro ⟨x,c,g⟩ ⟨i,rfl,g1,g2,g3,g4⟩
 dsimp only at g2 g3 g4
 unfold B8
 dsimp only
 by_cases hi:i<a.Ops.length
 ·obtain ⟨t,e,ht⟩:=A1h h hi g2 c K g3 g4
  rw [if_pos (by omega),e]
  simp only [Option.bind_some]
  cases t with
  | inl u=>exact .inr ⟨_,rfl,fun q hq=>by cases hq⟩
  | inr q=>
    obtain ⟨p1,p2,p3⟩:=ht q rfl
    dsimp only
    rw [Af (by unfold InI;omega)]
    exact .inl ⟨_,rfl,⟨i+1,rfl,by omega,p1,p2,p3⟩,by first | omega | (dsimp only;omega)⟩
 ·rw [if_neg (by omega)]
  exact .inr ⟨_,rfl,fun q hq=>by cases hq;exact ⟨g2,g3,g4⟩⟩
theorem Au8 (h:Pair a b n m) {f:List Int} (hf:okF n m f) : ∃r,Do a b f=some r∧(r.2=true→okF n m r.1∧Be r.1≤Be f):=by
 obtain ⟨hn,hn8,hm,hm8⟩:=h.pos
 have hL:=Ay
 unfold Do
 rw [Ag4 (by have:=hf.1;omega)]
 simp only [Option.bind_some]
 obtain ⟨t,e,ht⟩:=Cn (body:=Cp a b) (fun s=>okF n m s.2∧Be s.2≤Be f) (fun s=>2*Be s.2+(if s.1=true then 1 else 0)) (fun t => ∀q,t = .inr q→okF n m q∧Be q≤Be f) (by
  rintro ⟨c,g⟩ ⟨g1,g2⟩
  dsimp only at g1 g2
  unfold Cp
  dsimp only
  by_cases hc:c=true
  ·rw [if_pos hc]
   obtain ⟨t,e,ht⟩:=Az1 h g1 (Be g) (Nat.le_refl _)
   rw [e]
   simp only [Option.bind_some]
   cases t with
   | inl u=>exact .inr ⟨_,rfl,fun q hq=>by cases hq⟩
   | inr q=>
     obtain ⟨p1,p2,p3⟩:=ht q rfl
     refine .inl ⟨_,rfl,⟨p1,by first | omega | (dsimp only;omega)⟩,?_⟩
     dsimp only
     rw [if_pos hc]
     by_cases hq:q.1=true
     ·have:=p3 hq
      rw [if_pos hq];omega
     ·rw [if_neg hq];omega
  ·rw [if_neg hc]
   exact .inr ⟨_,rfl,fun q hq=>by cases hq;exact ⟨g1,g2⟩⟩) (s:=(true,f)) ⟨hf,Nat.le_refl _⟩
 rw [e]
 simp only [Option.bind_some]
 cases t with
 | inl u=>exact ⟨_,rfl,fun hh=>by cases hh⟩
 | inr q=>exact ⟨_,rfl,fun _=>ht q rfl⟩
theorem Ayl {f:List Int} (hl:f.length≤1048576) : ∃r,E3 f=some r:=by
 have hL:=Ay
 unfold E3
 obtain ⟨t,e,_⟩:=Cn (body:=Dd f) (fun s => ∃i:Nat,s=(i:Int)∧i≤f.length) (fun s=>f.length-s.toNat) (fun _=>True) (by
  rintro s ⟨i,rfl,g1⟩
  unfold Dd
  by_cases hi:i<f.length
  ·rw [if_pos (by omega),Af (by omega),Int.toNat_natCast]
   by_cases h0:nth f i≥0
   ·rw [if_pos h0,Af (by omega),Af (by omega),Th _ _ (by simp;omega)]
    simp only [Option.bind_some]
    split
    ·exact .inr ⟨_,rfl,trivial⟩
    ·rw [Af (by unfold InI;omega)]
     exact .inl ⟨_,rfl,⟨i+1,rfl,by omega⟩,by omega⟩
   ·rw [if_neg h0,Af (by unfold InI;omega)]
    exact .inl ⟨_,rfl,⟨i+1,rfl,by omega⟩,by omega⟩
  ·rw [if_neg (by omega)]
   exact .inr ⟨_,rfl,trivial⟩) (s:=(0:Int)) ⟨0,rfl,Nat.zero_le _⟩
 rw [e]
 cases t<;>exact ⟨_,rfl⟩
theorem A45 {k:Nat} (hk:k≤100) {f:List Int} (hl:f.length≤1048576) : ∃r,Fx (k:Int) f=some r:=by
 have hL:=Ay
 unfold Fx
 obtain ⟨t,e,_⟩:=Cn (body:=De (k:Int) f) (fun s => ∃i:Nat,s=(i:Int)∧i≤k) (fun s=>k-s.toNat) (fun _=>True) (by
  rintro s ⟨i,rfl,g1⟩
  unfold De
  by_cases hi:i<k
  ·rw [if_pos (by omega),Th _ _ (by omega)]
   simp only [Option.bind_some]
   split
   ·rw [Af (by unfold InI;omega)]
    exact .inl ⟨_,rfl,⟨i+1,rfl,by omega⟩,by omega⟩
   ·exact .inr ⟨_,rfl,trivial⟩
  ·rw [if_neg (by omega)]
   exact .inr ⟨_,rfl,trivial⟩) (s:=(0:Int)) ⟨0,rfl,Nat.zero_le _⟩
 rw [e]
 cases t<;>exact ⟨_,rfl⟩
structure Srch (a b:SAlgebra) (n M:Nat) (s:Sl7Search):Prop where
 a:s.a=a
 b:s.b=b
 most:s.most=M
 t0:0≤s.tries
 t1:s.tries≤5001
 fl:s.found.length≤M
 rows : ∀r∈s.found,r.length=n
theorem A4t (h:Pair a b n m) {M:Nat} (hM:M≤1000) : ∀(k:Nat) (s:Sl7Search) (f:List Int),Be f<k→okF n m f→Srch a b n M s→s.found.length<M → ∃u,Am k s f=some ((),u)∧Srch a b n M u:=by
 obtain ⟨hn,hn8,hm,hm8⟩:=h.pos
 have hL:=Ay
 intro k
 induction k with
 | zero=>intro s f hk;omega
 | succ k ih=>
   intro s f hk hf hs hlt
   show ∃u,Bq (Am k) s f=some ((),u)∧_
   unfold Bq
   have hfl:=hf.1
   obtain ⟨q,e,q1,q2⟩:=Cn (body:=Bu s f) (fun x => ∃i:Nat,x=(i:Int)∧i≤f.length) (fun x=>f.length-x.toNat) (fun q => ∃i:Nat,q=(i:Int)∧i≤f.length∧(i<f.length→nth f i<0)) (by
    rintro x ⟨i,rfl,g1⟩
    unfold Bu
    by_cases hi:i<f.length
    ·rw [if_pos (by omega),Af (by omega),Int.toNat_natCast]
     by_cases h0:nth f i≥0
     ·rw [if_pos h0,Af (by unfold InI;omega)]
      exact .inl ⟨_,rfl,⟨i+1,rfl,by omega⟩,by omega⟩
     ·rw [if_neg h0]
      exact .inr ⟨_,rfl,i,rfl,by omega,fun _=>by omega⟩
    ·rw [if_neg (by omega)]
     exact .inr ⟨_,rfl,i,rfl,g1,fun hh=>absurd hh hi⟩) (s:=(0:Int)) ⟨0,rfl,Nat.zero_le _⟩
   obtain ⟨rfl,q2,q3⟩:=q2
   rw [e]
   simp only [Option.bind_some]
   by_cases hq:(q1:Int)=(f.length:Int)
   ·rw [if_pos hq]
    have key : ∀w:Bool,∃u,(if w=true then ask ((s.found).length+([f]).length≤LIM)<|some ((),({ a:=s.a,b:=s.b,into:=s.into,onto:=s.onto,most:=s.most,tries:=s.tries,found:=s.found++[f] }:Sl7Search)) else some ((),s))=some ((),u)∧Srch a b n M u:=by
     intro w
     cases w with
     | false=>exact ⟨s,rfl,hs⟩
     | true=>
       rw [if_pos rfl,Af (by simp only [List.length_cons,List.length_nil];omega)]
       refine ⟨_,rfl,hs.a,hs.b,hs.most,hs.t0,hs.t1,by simp;omega,fun r hr=> ?_⟩
       rcases List.mem_append.1 hr with h1 | h1
       ·exact hs.rows r h1
       ·rw [List.mem_singleton.1 h1];exact hfl
    by_cases ho:s.onto=true
    ·rw [if_pos ho]
     obtain ⟨w,e2⟩:=A45 (k:=m) (by omega) (f:=f) (by omega)
     rw [hs.b,h.sb,e2]
     simp only [Option.bind_some]
     have:=key w
     rw [hs.b] at this
     exact this
    ·rw [if_neg ho]
     exact key true
   ·rw [if_neg hq]
    have hq4:q1<f.length:=by omega
    have hneg:=q3 hq4
    obtain ⟨t,e2,ht⟩:=Cn (body:=At (Am k) f (q1:Int)) (fun s => ∃y:Nat,s.1=(y:Int)∧y≤m∧Srch a b n M s.2) (fun s=>m-s.1.toNat) (fun t => ∃u,Srch a b n M u∧(t = .inl u∨t = .inr u)) (by
     rintro ⟨x,s⟩ ⟨y,rfl,g1,g2⟩
     dsimp only at g2
     unfold At
     dsimp only
     have ea:=g2.a
     have eb:=g2.b
     have em:=g2.most
     have et0:=g2.t0
     have et1:=g2.t1
     by_cases hg:y<m∧s.found.length<M∧s.tries≤5000
     ·obtain ⟨c1,c2,c3⟩:=hg
      rw [eb,h.sb,em,if_pos (by omega),if_pos (by omega),if_pos c3]
      simp only [Option.bind_some]
      rw [Af (by unfold InI;omega)]
      by_cases c4:s.tries+1>5000
      ·rw [if_pos c4]
       exact .inr ⟨_,rfl,({ a:=s.a,b:=b,into:=s.into,onto:=s.onto,most:=(M:Int),tries:=s.tries+1,found:=s.found }:Sl7Search),⟨ea,rfl,rfl,by show 0≤s.tries+1;omega,by show s.tries+1≤5001;omega,g2.fl,g2.rows⟩,.inl rfl⟩
      ·rw [if_neg c4,Ag4 (by omega)]
       simp only [Option.bind_some]
       rw [Af (by omega),Int.toNat_natCast,ea]
       have hof:okF n m (f.set q1 (y:Int)):=hf.set (by omega)
       have hop:=Nv hq4 hneg (y:=(y:Int)) (by omega)
       obtain ⟨r,e3,hr⟩:=Au8 h hof
       rw [e3]
       simp only [Option.bind_some]
       have hS:Srch a b n M { a:=a,b:=b,into:=s.into,onto:=s.onto,most:=(M:Int),tries:=s.tries+1,found:=s.found }:=⟨rfl,rfl,rfl,by first | omega | (dsimp only;omega),by first | omega | (dsimp only;omega),g2.fl,g2.rows⟩
       have go:r.2=true → ∃s',((Am k { a:=a,b:=b,into:=s.into,onto:=s.onto,most:=(M:Int),tries:=s.tries+1,found:=s.found } r.1).bind fun (_,u25)=>ask (InI ((y:Int)+1))<|(some (.inl ((y:Int)+1,u25)):Option ((Int×Sl7Search) ⊕ (Sl7Search ⊕ Sl7Search))))=some (.inl s')∧(∃z:Nat,s'.1=(z:Int)∧z≤m∧Srch a b n M s'.2)∧m-s'.1.toNat<m-(y:Int).toNat:=by
        intro h2
        obtain ⟨p1,p2⟩:=hr h2
        obtain ⟨u,e4,hu⟩:=ih _ r.1 (by omega) p1 hS c2
        rw [e4]
        simp only [Option.bind_some]
        rw [Af (by unfold InI;omega)]
        exact ⟨_,rfl,⟨y+1,rfl,by omega,hu⟩,by first | omega | (dsimp only;omega)⟩
       have no : ∃s',(ask (InI ((y:Int)+1))<|(some (.inl ((y:Int)+1,({ a:=a,b:=b,into:=s.into,onto:=s.onto,most:=(M:Int),tries:=s.tries+1,found:=s.found }:Sl7Search))):Option ((Int×Sl7Search) ⊕ (Sl7Search ⊕ Sl7Search))))=some (.inl s')∧(∃z:Nat,s'.1=(z:Int)∧z≤m∧Srch a b n M s'.2)∧m-s'.1.toNat<m-(y:Int).toNat:=by
        rw [Af (by unfold InI;omega)]
        exact ⟨_,rfl,⟨y+1,rfl,by omega,hS⟩,by first | omega | (dsimp only;omega)⟩
       left
       by_cases h2:r.2=true
       ·rw [if_pos h2]
        by_cases hi:s.into=true
        ·rw [if_pos hi]
         obtain ⟨w,e5⟩:=Ayl (f:=r.1) (by have:=(hr h2).1.1;omega)
         rw [e5]
         simp only [Option.bind_some]
         by_cases hw:w=true
         ·rw [if_pos hw];exact go h2
         ·rw [if_neg hw];exact no
        ·rw [if_neg hi];exact go h2
       ·rw [if_neg h2];exact no
     ·right
      have e0:(if (y:Int)<s.b.Size then if (s.found.length:Int)<s.most then if s.tries≤5000 then some (.inl ()) else some (.inr ()) else some (.inr ()) else some (.inr ()):Option (Unit ⊕ Unit))=some (.inr ()):=by
       rw [eb,h.sb,em]
       split
       ·split
        ·split
         ·exact absurd ⟨by omega,by omega,by assumption⟩ hg
         ·rfl
        ·rfl
       ·rfl
      rw [e0]
      exact ⟨_,rfl,s,g2,.inr rfl⟩) (s:=((0:Int),s)) ⟨0,rfl,Nat.zero_le _,hs⟩
    rw [e2]
    simp only [Option.bind_some]
    obtain ⟨u,hu,ht | ht⟩:=ht
    ·subst ht;exact ⟨u,rfl,hu⟩
    ·subst ht;exact ⟨u,rfl,hu⟩
end
theorem Azk {s1 s2:Sl7Search→List Int→Option (Unit×Sl7Search)} (h : ∀s f,LeO (s1 s f) (s2 s f)) (s:Sl7Search) (f:List Int):LeO (Bq s1 s f) (Bq s2 s f):=by
 unfold Bq
 refine LeO.bind (LeO.refl _) fun q=>LeO.ite (LeO.refl _) (LeO.bind (LeO.loop (fun s=> ?_) _) fun _=>LeO.refl _)
 obtain ⟨x,y⟩:=s
 unfold At
 dsimp only
 refine LeO.bind (LeO.refl _) fun t=> ?_
 cases t with
 | inr _=>exact LeO.refl _
 | inl _=>exact LeO.ask (LeO.ite (LeO.refl _) (LeO.bind (LeO.refl _) fun r=>LeO.ask (LeO.bind (LeO.refl _) fun r2=>LeO.ite (LeO.ite (LeO.bind (LeO.refl _) fun r3=>LeO.ite (LeO.bind (h _ _) fun _=>LeO.refl _) (LeO.refl _)) (LeO.bind (h _ _) fun _=>LeO.refl _)) (LeO.refl _))))
theorem A2r {α β γ:Type} {F:Nat→α→β→Option γ} (h0 : ∀a b,F 0 a b=none) (h : ∀n,(∀a b,LeO (F n a b) (F (n+1) a b)) → ∀a b,LeO (F (n+1) a b) (F (n+2) a b)) (a:α) (b:β):upO fun n=>F n a b:=by
 have step : ∀n,∀a b,LeO (F n a b) (F (n+1) a b):=by
  intro n
  induction n with
  | zero=>intro a b v e;rw [h0] at e;cases e
  | succ n ih=>exact h n ih
 have key : ∀n k v,F n a b=some v→F (n+k) a b=some v:=by
  intro n k v e
  induction k with
  | zero=>exact e
  | succ k ih=>exact step (n+k) a b v ih
 intro n m v hnm e
 have:=key n (m-n) v e
 rwa [show n+(m-n)=m by omega] at this
theorem Axw (s:Sl7Search) (f:List Int):upO fun n=>Am n s f:=A2r (F:=Am) (fun _ _=>rfl) (fun _ h a b=>Azk h a b) s f
section
variable {a b:SAlgebra} {n m:Nat}
theorem A4f (h:Pair a b n m) {M:Nat} (hM0:0<M) (hM:M≤1000) (into onto:Bool) : ∃r,Cq a b into onto (M:Int)=some r∧r.1.length≤M ∧ ∀row∈r.1,row.length=n:=by
 obtain ⟨hn,hn8,hm,hm8⟩:=h.pos
 have hL:=Ay
 unfold Cq
 obtain ⟨f,e,hf⟩:=Cn (body:=Db a b into onto (M:Int)) (fun s => ∃i:Nat,s.1=(i:Int)∧i≤n∧s.2.length=i ∧ ∀x∈s.2,x = -1) (fun s=>n-s.1.toNat) (fun t=>t.length=n ∧ ∀x∈t,x = -1) (by
  rintro ⟨x,g⟩ ⟨i,rfl,g1,g2,g3⟩
  dsimp only at g2 g3
  unfold Db
  dsimp only
  rw [h.sa]
  by_cases hi:i<n
  ·rw [if_pos (by omega),Af (by simp;omega),Af (by unfold InI;omega)]
   refine .inl ⟨_,rfl,⟨i+1,rfl,by omega,by simp;omega,fun z hz=> ?_⟩,by first | omega | (dsimp only;omega)⟩
   rcases List.mem_append.1 hz with h1 | h1
   ·exact g3 z h1
   ·exact List.mem_singleton.1 h1
  ·rw [if_neg (by omega)]
   exact .inr ⟨_,rfl,by first | omega | (dsimp only;omega),g3⟩) (s:=((0:Int),Ao Int)) ⟨0,rfl,Nat.zero_le _,rfl,fun z hz=>by cases hz⟩
 rw [e]
 simp only [Option.bind_some]
 have hok:okF n m f:=⟨hf.1,fun x hx=>by rw [hf.2 x hx];omega⟩
 obtain ⟨r,e2,hr⟩:=Au8 h hok
 rw [e2]
 simp only [Option.bind_some]
 have hS:Srch a b n M { a:=a,b:=b,into:=into,onto:=onto,most:=(M:Int),tries:=0,found:=Ao (List Int) }:=⟨rfl,rfl,rfl,by simp,by simp,by simp [Ao],fun r hr=>by cases hr⟩
 have go:r.2=true → ∃u,(Agn fun k=>Am k ({ a:=a,b:=b,into:=into,onto:=onto,most:=(M:Int),tries:=0,found:=Ao (List Int) }) r.1)=some ((),u)∧Srch a b n M u:=by
  intro h2
  obtain ⟨u,e3,hu⟩:=A4t h hM (Be r.1+1) _ r.1 (Nat.lt_succ_self _) (hr h2).1 hS (by simpa [Ao] using hM0)
  exact ⟨u,Aro (Axw _ _) e3,hu⟩
 have fin : ∀u,Srch a b n M u → ∃r:List (List Int)×Bool,some (u.found,decide (u.tries≤5000))=some r∧r.1.length≤M ∧ ∀row∈r.1,row.length=n:=fun u hu=>⟨_,rfl,hu.fl,hu.rows⟩
 by_cases h2:r.2=true
 ·rw [if_pos h2]
  obtain ⟨u,e3,hu⟩:=go h2
  by_cases hi:into=true
  ·rw [if_pos hi]
   obtain ⟨w,e4⟩:=Ayl (f:=r.1) (by have:=(hr h2).1.1;omega)
   rw [e4]
   simp only [Option.bind_some]
   by_cases hw:w=true
   ·rw [if_pos hw,e3];exact fin u hu
   ·rw [if_neg hw];exact fin _ hS
  ·rw [if_neg hi,e3];exact fin u hu
 ·rw [if_neg h2];exact fin _ hS
end
theorem O5 {a b:SAlgebra} (h:Ko a b):Pair a b a.Size.toNat b.Size.toNat:=⟨h,by have:=h.1.1;omega,by have:=h.2.1.1;omega⟩
theorem A00 {c:Sl1Cur} {k:Nat} (h:Cur k c) (hk:k≤600000000) {a b:SAlgebra} (ha:F8 a) (hb:F8 b) : ∃f d,Gn c a b=some (f,d)∧Cur (k+100) d∧f.length≤9:=by
 have hL:=Ay
 unfold Gn
 rw [Wu ha]
 simp only [Option.bind_some]
 by_cases ga:C5 a
 ·rw [decide_eq_true ga,if_pos rfl,Wu hb]
  simp only [Option.bind_some]
  by_cases gb:C5 b
  ·rw [decide_eq_true gb,if_pos rfl]
   simp only [Option.bind_some]
   obtain ⟨n,hn⟩:=Int.eq_ofNat_of_zero_le (show 0≤a.Size by have:=ga.1;omega)
   have hn8:n≤8:=by have:=ga.2.1;omega
   have hn1:1≤n:=by have:=ga.1;omega
   obtain ⟨⟨f,d⟩,e,hf,hd⟩:=Cn (body:=E7 a b) (fun s => ∃i:Nat,s.1=(i:Int)∧i≤n∧s.2.1.length=i∧Cur (k+2*i) s.2.2) (fun s=>n-s.1.toNat) (fun t=>t.1.length=n∧Cur (k+16) t.2) (by
    rintro ⟨x,g,c⟩ ⟨i,rfl,g1,g2,g3⟩
    dsimp only at g2 g3
    unfold E7
    dsimp only
    rw [hn]
    by_cases hi:i<n
    ·obtain ⟨r,d,e,hd,_⟩:=Dm g3 (by omega) b.Size
     rw [if_pos (by omega),e]
     simp only [Option.bind_some]
     rw [Af (by simp;omega),Af (by unfold InI;omega)]
     exact .inl ⟨_,rfl,⟨i+1,rfl,by omega,by simp;omega,hd.mono (by omega)⟩,by first | omega | (dsimp only;omega)⟩
    ·rw [if_neg (by omega)]
     exact .inr ⟨_,rfl,by first | omega | (dsimp only;omega),g3.mono (by omega)⟩) (s:=((0:Int),Ao Int,c)) ⟨0,rfl,Nat.zero_le _,rfl,h⟩
   rw [e]
   simp only [Option.bind_some]
   have mid : ∀ {R:Option (List Int×Sl1Cur)},R=(((E6 a b).bind fun r11=>if r11=true then (Da d 3).bind fun (r13,u14)=>some (!r13,u14) else some (false,d)).bind fun (q15_41,q15_80)=>
     if q15_41=true then
      (Cq a b false false 8).bind fun r17=>
      if (r17.1.length:Int)>0 then
       (Aq q15_80 (r17.1.length:Int)).bind fun (r19,u20)=>
       ask (0≤r19∧r19<(r17.1.length:Int)) <|
       (Ft (nth r17.1 r19.toNat)).bind fun r22=>some (r22,u20)
      else some (f,q15_80)
     else some (f,q15_80)) → ∃g d2,R=some (g,d2)∧g.length=n∧Cur (k+20) d2:=by
    rintro R rfl
    unfold E6
    rw [Vh ha,Vh hb]
    simp only [Option.bind_some]
    rw [Ae7 (Aa0 ha)]
    simp only [Option.bind_some]
    by_cases ht:Dg a=Dg b
    ·rw [decide_eq_true ht,if_pos rfl]
     obtain ⟨w,d1,e1,hd1⟩:=Aef hd (by omega) 3
     rw [e1]
     simp only [Option.bind_some]
     by_cases hw:(!w)=true
     ·rw [if_pos hw]
      have hP:=O5 (a:=a) (b:=b) ⟨ga,gb,ht⟩
      rw [show a.Size.toNat=n by omega] at hP
      obtain ⟨r,e2,r1,r2⟩:=A4f hP (M:=8) (by omega) (by omega) false false
      have e2':Cq a b false false 8=some r:=e2
      rw [e2']
      simp only [Option.bind_some]
      by_cases h0:(r.1.length:Int)>0
      ·rw [if_pos h0]
       obtain ⟨y,d3,e3,hd3,y1,y2⟩:=Dm hd1 (by omega) (r.1.length:Int)
       rw [e3]
       simp only [Option.bind_some]
       have hrow:=r2 _ (Az (show y.toNat<r.1.length by omega))
       rw [Af (by omega),Ag4 (by omega)]
       exact ⟨_,_,rfl,hrow,hd3⟩
      ·rw [if_neg h0];exact ⟨_,_,rfl,hf,hd1.mono (by omega)⟩
     ·rw [if_neg hw];exact ⟨_,_,rfl,hf,hd1.mono (by omega)⟩
    ·rw [decide_eq_false ht,if_neg (by simp)]
     exact ⟨_,_,rfl,hf,hd.mono (by omega)⟩
   obtain ⟨g,d2,e2,hg,hd2⟩:=mid rfl
   have e2':=e2
   rw [e2']
   simp only [Option.bind_some]
   obtain ⟨y,d3,e3,hd3,_⟩:=Dm hd2 (by omega) 24
   rw [e3]
   simp only [Option.bind_some]
   by_cases y0:y=0
   ·rw [if_pos y0,Af (by simp;omega)]
    exact ⟨_,_,rfl,hd3.mono (by omega),by simp;omega⟩
   ·rw [if_neg y0]
    by_cases y1:y=1
    ·rw [if_pos y1]
     obtain ⟨z,d4,e4,hd4,z1,z2⟩:=Dm hd3 (by omega) (g.length:Int)
     rw [e4]
     simp only [Option.bind_some]
     obtain ⟨v,d5,e5,hd5,_⟩:=J4 hd4 (by omega) [-1,b.Size,1099511627776] (by simp)
     rw [e5]
     simp only [Option.bind_some]
     rw [Af (by omega)]
     exact ⟨_,_,rfl,hd5.mono (by omega),by simp;omega⟩
    ·rw [if_neg y1]
     exact ⟨_,_,rfl,hd3.mono (by omega),by omega⟩
  ·rw [decide_eq_false gb,if_neg (by simp)]
   exact ⟨_,_,rfl,h.mono (by omega),by simp [Ao]⟩
 ·rw [decide_eq_false ga,if_neg (by simp)]
  exact ⟨_,_,rfl,h.mono (by omega),by simp [Ao]⟩
theorem A35 {xss:List (List Int)} {l:List Int} (hn:xss.length≤1048576) (hl:l.length≤LIM) : ∃ys,K4 xss l=some ys∧ys.length=xss.length+1 ∧ ∀r∈ys,r∈xss∨r=l:=by
 have hL:=Ay
 unfold K4
 obtain ⟨q,e,j,rfl,hj⟩:=Cn (body:=Hn xss l) (fun s => ∃j:Nat,s=(j:Int)∧j≤xss.length) (fun s=>s.toNat) (fun q => ∃j:Nat,q=(j:Int)∧j≤xss.length) (by
  rintro s ⟨j,rfl,hj⟩
  unfold Hn
  by_cases h0:(j:Int)>0
  ·rw [if_pos h0,Af (by unfold InI;omega),Af (by omega)]
   split
   ·rw [Af (by unfold InI;omega)]
    exact .inl ⟨_,rfl,⟨j-1,by omega,by omega⟩,by omega⟩
   ·rw [Af (by unfold InI;omega),Af (by omega)]
    split
    ·rename_i c2
     rw [Af (by unfold InI;omega),Af (by omega),A26 (by omega) hl]
     simp only [Option.bind_some]
     split
     ·rw [Af (by unfold InI;omega)]
      exact .inl ⟨_,rfl,⟨j-1,by omega,by omega⟩,by omega⟩
     ·exact .inr ⟨_,rfl,j,rfl,hj⟩
    ·exact .inr ⟨_,rfl,j,rfl,hj⟩
  ·rw [if_neg h0]
   exact .inr ⟨_,rfl,j,rfl,hj⟩) (s:=(xss.length:Int)) ⟨_,rfl,Nat.le_refl _⟩
 rw [e]
 simp only [Option.bind_some,Ao,List.nil_append,Int.toNat_natCast,Int.toNat_zero,List.drop_zero,Nat.sub_zero]
 rw [Af (by omega),Af (by simp;omega),Af (by simp;omega),Af (by omega),Af (by simp;omega)]
 refine ⟨_,rfl,by simp;omega,fun r hr=> ?_⟩
 rcases List.mem_append.1 hr with h1 | h1
 ·rcases List.mem_append.1 h1 with h2 | h2
  ·exact .inl (List.mem_of_mem_take h2)
  ·exact .inr (List.mem_singleton.1 h2)
 ·exact .inl (List.mem_of_mem_drop (List.mem_of_mem_take h1))
theorem Av8 {a:SAlgebra} {n:Nat} {xs:List Int} (hx:Zf a n xs):xs.length≤n:=by rw [←hx.2.2];exact Re _ _
theorem Axa {a:SAlgebra} {n:Nat} (h:ReadyA a n):Zf a n (Cj n (Y7 (2^n-1))):=by
 have hb : ∀z,z<n→Y7 (2^n-1) z=true:=fun z hz=>by
  unfold Y7
  have:=Nat.testBit_two_pow_sub_one n z
  rw [Nat.testBit_eq_decide_div_mod_eq] at this
  rw [this];exact decide_eq_true hz
 refine (Awp h).2 ⟨A1z _ _,Ahr _ _,fun i hi k hk _=>decide_eq_true (Oi.2 ⟨_,(h.val hi hk).2,hb _ (h.val hi hk).2,rfl⟩)⟩
theorem A2x {a:SAlgebra} {n:Nat} (h:ReadyA a n) : ∃r,Ke a=some r∧0<r.length∧r.length≤1048576 ∧ ∀x∈r,Zf a n x:=by
 have hL:=Ay
 have hn8:=h.le
 have h20:2^n≤1048576:=Awq (by omega)
 unfold Ke
 obtain ⟨r,e,h1,h2,h3⟩:=Cn (body:=Ij a) (fun s => ∃m:Nat,s.1=(m:Int)∧m≤2^n∧s.2.length≤m∧(2^n-1<m→0<s.2.length) ∧ ∀x∈s.2,Zf a n x) (fun s=>2^n-s.1.toNat) (fun r=>0<r.length∧r.length≤1048576 ∧ ∀x∈r,Zf a n x) (by
  rintro ⟨x,xs⟩ ⟨m,rfl,m1,m2,m3,m4⟩
  dsimp only at m2 m3 m4
  unfold Ij
  dsimp only
  rw [h.sz,Af (by omega),A4s (by omega)]
  by_cases hm:m<2^n
  ·have hsl:=Re n (Y7 m)
   rw [if_pos (by omega),A1x (by omega) hm]
   simp only [Option.bind_some]
   rw [A59 h (by omega)]
   simp only [Option.bind_some]
   by_cases hs:Zf a n (Cj n (Y7 m))
   ·obtain ⟨ys,e1,y1,y2⟩:=A35 (xss:=xs) (l:=Cj n (Y7 m)) (by omega) (by omega)
    rw [decide_eq_true hs,if_pos rfl,e1]
    simp only [Option.bind_some]
    rw [Af (by unfold InI;omega)]
    refine .inl ⟨_,rfl,⟨m+1,rfl,by omega,by first | omega | (dsimp only;omega),fun _=>by first | omega | (dsimp only;omega),fun z hz=> ?_⟩,by first | omega | (dsimp only;omega)⟩
    rcases y2 z hz with h5 | h5
    ·exact m4 z h5
    ·rw [h5];exact hs
   ·rw [decide_eq_false hs,if_neg (by simp),Af (by unfold InI;omega)]
    refine .inl ⟨_,rfl,⟨m+1,rfl,by omega,by first | omega | (dsimp only;omega),fun hh=> ?_,m4⟩,by first | omega | (dsimp only;omega)⟩
    have:m=2^n-1∨2^n-1<m:=by omega
    rcases this with h5 | h5
    ·exact absurd (h5▸Axa h) hs
    ·exact m3 h5
  ·rw [if_neg (by omega)]
   have hp:0<2^n:=Nat.pow_pos (by omega)
   exact .inr ⟨_,rfl,m3 (by omega),by first | omega | (dsimp only;omega),m4⟩) (s:=((0:Int),Ao (List Int))) ⟨0,rfl,Nat.zero_le _,by simp [Ao],fun hh=>by omega,fun x hx=>by cases hx⟩
 rw [e]
 exact ⟨_,rfl,h1,h2,h3⟩
theorem Ax1 {a:SAlgebra} (h:F8 a):H4 a=some a:=by
 have hL:=Ay
 unfold H4
 have key:=C4 (body:=Fk a) (fun i=>((i:Int),(⟨a.Size,a.Ops.take i⟩:SAlgebra))) a.Ops.length a (fun i hi=>by
  unfold Fk Pa
  dsimp only
  have ht:=h.2 _ (Az hi)
  have h1:=h.1
  rw [if_pos (by omega),Af (by omega),Int.toNat_natCast,Ag4 (by omega)]
  simp only [Option.bind_some]
  rw [Af (by simp;omega),Af (by unfold InI;omega),Hf hi]
  rfl) (by
  unfold Fk
  dsimp only
  rw [if_neg (by omega),List.take_length])
 have key':Al (Fk a) (0,{ Size:=a.Size,Ops:=Ao SOp })=some a:=key
 rw [key'];rfl
theorem A21 {xs:List Int} (hl:xs.length≤1048576) (y:Int) : ∃r,J7 xs y=some r:=by
 unfold J7
 obtain ⟨t,e,_⟩:=Cn (body:=G0 xs y) (fun s => ∃i:Nat,s=(i:Int)∧i≤xs.length) (fun s=>xs.length-s.toNat) (fun _=>True) (by
  rintro s ⟨i,rfl,g1⟩
  unfold G0
  by_cases hi:i<xs.length
  ·rw [if_pos (by omega),Af (by omega)]
   split
   ·exact .inr ⟨_,rfl,trivial⟩
   ·rw [Af (by unfold InI;omega)]
    exact .inl ⟨_,rfl,⟨i+1,rfl,by omega⟩,by omega⟩
  ·rw [if_neg (by omega)]
   exact .inr ⟨_,rfl,trivial⟩) (s:=(0:Int)) ⟨0,rfl,Nat.zero_le _⟩
 rw [e]
 cases t<;>exact ⟨_,rfl⟩
theorem A7k {a:SAlgebra} {n:Nat} (h:ReadyA a n) (ht:Ht a) {xs:List Int} (hx:Ce xs n) (hl:xs.length≤n) (h0:0<xs.length) : ∃r,Kj a xs=some r∧Ht r:=by
 have hL:=Ay
 have hn8:=h.le
 have hn:=h.pos
 unfold Kj
 obtain ⟨r,e,hr1,hr2⟩:=Cn (body:=Io a xs) (fun s => ∃i:Nat,s.1=(i:Int)∧i≤a.Ops.length∧s.2.Ops.length=i ∧ ∀f∈s.2.Ops,f.Table.length≤101) (fun s=>a.Ops.length-s.1.toNat) (fun t=>t.Ops.length≤10 ∧ ∀f∈t.Ops,f.Table.length≤101) (by
  rintro ⟨x,s⟩ ⟨i,rfl,g1,g2,g3⟩
  dsimp only at g2 g3
  have ht1:=ht.1
  unfold Io
  dsimp only
  by_cases hi:i<a.Ops.length
  ·obtain ⟨r,e1,hr,l1,t1,l2,_⟩:=h.op hi
   have htt:=ht.2 _ (Az hi)
   have hle:xs.length^r≤n^r:=Nat.pow_le_pow_left hl r
   obtain ⟨o,e2,ho⟩:=Cn (body:=Ik a xs (i:Int) s) (fun s => ∃j:Nat,s.1=(j:Int)∧j≤xs.length^r∧s.2.Arity=(r:Int)∧s.2.Table.length=j) (fun s=>xs.length^r-s.1.toNat) (fun t=>t.Table.length≤101) (by
    rintro ⟨y,o⟩ ⟨j,rfl,k1,k2,k3⟩
    dsimp only at k2 k3
    unfold Ik
    dsimp only
    rw [k2,Asc (by omega) hr]
    simp only [Option.bind_some]
    by_cases hj:j<xs.length^r
    ·rw [if_pos (by omega),Aaq h0 (by omega) hr (by omega)]
     simp only [Option.bind_some]
     have hal:=K0 xs.length r j
     have hai:=Q9 h0 r j
     obtain ⟨q,e3,q1,q2⟩:=Cn (body:=Ii a xs (i:Int) s (j:Int) o) (fun s => ∃p:Nat,s.1=(p:Int)∧p≤r∧s.2.length=r∧(∀z,z<p→0≤nth s.2 z∧nth s.2 z<n) ∧ ∀z,p≤z→z<r→0≤nth s.2 z∧nth s.2 z<xs.length) (fun s=>r-s.1.toNat) (fun t=>t.length=r∧Ce t n) (by
      rintro ⟨w,g⟩ ⟨p,rfl,p1,p2,p3,p4⟩
      dsimp only at p2 p3 p4
      unfold Ii
      dsimp only
      by_cases hp:p<r
      ·have hv:=p4 p (Nat.le_refl _) hp
       have hw:=hx _ (Az (show (nth g p).toNat<xs.length by omega))
       rw [if_pos (by omega),Af (by omega),Int.toNat_natCast,Af (by omega),Af (by omega),Af (by unfold InI;omega)]
       refine .inl ⟨_,rfl,⟨p+1,rfl,by omega,by simpa using p2,fun z hz=> ?_,fun z hz1 hz2=> ?_⟩,by first | omega | (dsimp only;omega)⟩
       ·dsimp only
        rw [Ld _ _ _ _ (by omega)]
        split
        ·exact hw
        ·exact p3 z (by omega)
       ·dsimp only
        rw [Ld _ _ _ _ (by omega),if_neg (by omega)]
        exact p4 z (by omega) hz2
      ·rw [if_neg (by omega)]
       refine .inr ⟨_,rfl,p2,fun v hv=> ?_⟩
       obtain ⟨z,hz,rfl⟩:=List.getElem_of_mem hv
       have:=p3 z (by omega)
       rwa [G2 hz] at this) (s:=((0:Int),Jm xs.length r j)) ⟨0,rfl,Nat.zero_le _,hal,fun z hz=>by omega,fun z _ hz=>hai _ (Az (by omega))⟩
     rw [e3]
     simp only [Option.bind_some]
     rw [Aqz hn8 h.sz hi (by omega) q2 (by rw [q1];exact l1)]
     simp only [Option.bind_some]
     obtain ⟨v,e4⟩:=A21 (xs:=xs) (by omega) (nth (nth a.Ops i).Table (Wa n q).toNat)
     rw [e4]
     simp only [Option.bind_some]
     rw [Af (by simp;omega),Af (by unfold InI;omega)]
     exact .inl ⟨_,rfl,⟨j+1,rfl,by omega,rfl,by simp;omega⟩,by first | omega | (dsimp only;omega)⟩
    ·rw [if_neg (by omega)]
     exact .inr ⟨_,rfl,by first | omega | (dsimp only;omega)⟩) (s:=((0:Int),{ Arity:=(nth a.Ops i).Arity,Table:=Ao Int })) ⟨0,rfl,Nat.zero_le _,e1,rfl⟩
   rw [if_pos (by omega),Af (by omega),Int.toNat_natCast,e2]
   simp only [Option.bind_some]
   rw [Af (by simp;omega),Af (by unfold InI;omega)]
   refine .inl ⟨_,rfl,⟨i+1,rfl,by omega,by simp;omega,fun f hf=> ?_⟩,by first | omega | (dsimp only;omega)⟩
   rcases List.mem_append.1 hf with h1 | h1
   ·exact g3 f h1
   ·rw [List.mem_singleton.1 h1];exact ho
  ·rw [if_neg (by omega)]
   exact .inr ⟨_,rfl,by first | omega | (dsimp only;omega),g3⟩) (s:=((0:Int),{ Size:=(xs.length:Int),Ops:=Ao SOp })) ⟨0,rfl,Nat.zero_le _,rfl,fun f hf=>by cases hf⟩
 rw [e]
 exact ⟨_,rfl,hr1,hr2⟩
theorem A1k {a:SAlgebra} (ht:Ht a) {f:List Int} {n:Nat} {z:Int}:Ht ⟨z,a.Ops.map (Aky f n)⟩:=by
 refine ⟨by simpa using ht.1,fun g hg=> ?_⟩
 obtain ⟨o,ho,rfl⟩:=List.mem_map.1 hg
 have:=ht.2 o ho
 simp only [Aky,Awn,List.length_replicate]
 exact this
theorem A12 {α A B C:Type} {o:Option α} {k:α→Option ((A×B)×C)} {Q:α→Prop} {R:A→B→C→Prop} (h : ∃a,o=some a∧Q a) (h2 : ∀a,Q a → ∃x y z,k a=some ((x,y),z)∧R x y z) : ∃x y z,o.bind k=some ((x,y),z)∧R x y z:=by
 obtain ⟨a,rfl,ha⟩:=h
 exact h2 a ha
theorem App {c:Sl1Cur} {k:Nat} (h:Cur k c) (hk:k≤400000000) : ∃a b d,Fe c=some ((a,b),d)∧Cur (k+20000) d∧Ht a∧Ht b:=by
 have hL:=Ay
 unfold Fe
 obtain ⟨a,d,e,hd,ha⟩:=Q2 h (by omega)
 have hs:=Hu ha
 rw [e]
 simp only [Option.bind_some]
 rw [Wu hs]
 simp only [Option.bind_some]
 by_cases hg:C5 a
 ·rw [decide_eq_true hg,if_pos rfl]
  obtain ⟨w,d1,e1,hd1⟩:=Aef hd (by omega) 8
  rw [e1]
  simp only [Option.bind_some]
  by_cases hw:w=true
  ·rw [if_pos hw]
   obtain ⟨b,d2,e2,hd2,hb⟩:=Q2 hd1 (by omega)
   rw [e2]
   exact ⟨_,_,_,rfl,hd2.mono (by omega),ha,hb⟩
  rw [if_neg hw]
  simp only [Option.bind_some]
  have hr:=A7i hg
  have hz:=hr.sz
  have h8:=hr.le
  obtain ⟨y,d2,e2,hd2,y0,y1⟩:=Dm hd1 (by omega) 5
  rw [e2]
  simp only [Option.bind_some]
  have mid : ∀ {R:Option ((SAlgebra×SAlgebra×Sl1Cur) ⊕ Sl1Cur)},R=(if y=0 then (H4 a).bind fun r16=>some (.inl (r16,a,d2))
    else if y=1 then (Ef d2 a.Size).bind fun (r18,u19)=>(Is r18 a.Size).bind fun r20=>if r20=true then (Gm a r18).bind fun r22=>some (.inl (r22,a,u19)) else some (.inr u19)
    else if y=2 then (Ke a).bind fun r24=>ask (InI ((r24.length:Int)-1))<|ask (0≤(r24.length:Int)-1∧(r24.length:Int)-1<(r24.length:Int)) <|
      if ((nth r24 ((r24.length:Int)-1).toNat).length:Int)>0 then (Aq d2 (r24.length:Int)).bind fun (r28,u29)=>ask (0≤r28∧r28<(r24.length:Int)) <|
       if ((nth r24 r28.toNat).length:Int)>0 then (Kj a (nth r24 r28.toNat)).bind fun r32=>some (.inl (a,r32,u29)) else some (.inr u29)
      else some (.inr d2)
    else if y=3 then (Al (D0 a) (0,d2)).bind fun t=>match t with | (.inl (q43_3,q43_119))=>(some (.inl (q43_3,a,q43_119))) | (.inr q43_119)=>(some (.inr q43_119))
    else some (.inr d2)) → ∃t,R=some t∧(∀p q u,t = .inl (p,q,u)→Ht p∧Ht q∧Cur (k+15000) u) ∧ ∀u,t = .inr u→Cur (k+15000) u:=by
   rintro R rfl
   by_cases c0:y=0
   ·rw [if_pos c0,Ax1 hs]
    exact ⟨_,rfl,fun p q u hh=>by cases hh;exact ⟨ha,ha,hd2.mono (by omega)⟩,fun u hh=>by cases hh⟩
   rw [if_neg c0]
   by_cases c1:y=1
   ·rw [if_pos c1,hz]
    obtain ⟨l,d3,e3,hd3,hl⟩:=Av2 hd2 (by omega) a.Size.toNat (by omega)
    rw [e3]
    simp only [Option.bind_some]
    rw [A1c (by omega) (by omega)]
    simp only [Option.bind_some]
    by_cases hp:(l.length:Int)=(a.Size.toNat:Nat)∧Ce l (a.Size.toNat:Nat)∧uniq l
    ·have hpd:(decide ((l.length:Int)=(a.Size.toNat:Nat)∧Ce l (a.Size.toNat:Nat)∧uniq l))=true:=decide_eq_true hp
     simp only [hpd,if_true]
     rw [Aw2 hg hz ⟨by have:=hp.1;omega,hp.2.1,hp.2.2⟩]
     exact ⟨_,rfl,fun p q u hh=>by cases hh;exact ⟨A1k ha,ha,hd3.mono (by omega)⟩,fun u hh=>by cases hh⟩
    ·have hpd:(decide ((l.length:Int)=(a.Size.toNat:Nat)∧Ce l (a.Size.toNat:Nat)∧uniq l))=false:=decide_eq_false hp
     simp only [hpd,Bool.false_eq_true,if_false]
     exact ⟨_,rfl,fun p q u hh=>(nomatch hh),fun u hh=>by cases hh;exact hd3.mono (by omega)⟩
   rw [if_neg c1]
   by_cases c2:y=2
   ·obtain ⟨subs,e7,hpos,hsl,hall⟩:=A2x hr
    rw [if_pos c2,e7]
    simp only [Option.bind_some]
    rw [Af (by unfold InI;omega),Af (by omega)]
    split
    ·obtain ⟨v,d3,e3,hd3,v0,v1⟩:=Dm hd2 (by omega) (subs.length:Int)
     rw [e3]
     simp only [Option.bind_some]
     rw [Af (by omega)]
     have hsub:=hall _ (Az (show v.toNat<subs.length by omega))
     generalize nth subs v.toNat=xs at hsub ⊢
     by_cases hx0:(xs.length:Int)>0
     ·rw [if_pos hx0]
      obtain ⟨b,e4,hb⟩:=A7k hr ha hsub.1 (Av8 hsub) (by omega)
      rw [e4]
      exact ⟨_,rfl,fun p q u hh=>by cases hh;exact ⟨ha,hb,hd3.mono (by omega)⟩,fun u hh=>by cases hh⟩
     ·rw [if_neg hx0]
      exact ⟨_,rfl,fun p q u hh=>(nomatch hh),fun u hh=>by cases hh;exact hd3.mono (by omega)⟩
    ·exact ⟨_,rfl,fun p q u hh=>(nomatch hh),fun u hh=>by cases hh;exact hd2.mono (by omega)⟩
   rw [if_neg c2]
   by_cases c3:y=3
   ·rw [if_pos c3]
    obtain ⟨t,e3,t1,t2⟩:=Cn (body:=D0 a) (fun s => ∃j:Nat,s.1=(j:Int)∧j≤12∧Cur (k+1004+1000*j) s.2) (fun s=>12-s.1.toNat) (fun t=>(∀p u,t = .inl (p,u)→Ht p∧Cur (k+15000) u) ∧ ∀u,t = .inr u→Cur (k+15000) u) (by
     rintro ⟨x,c⟩ ⟨j,rfl,j1,j2⟩
     dsimp only at j2
     unfold D0
     dsimp only
     by_cases hj:j<12
     ·rw [if_pos (by omega)]
      obtain ⟨b,d3,e3,hd3,hb⟩:=Q2 j2 (by omega)
      have hsb:=Hu hb
      rw [e3]
      simp only [Option.bind_some]
      rw [Wu hsb]
      simp only [Option.bind_some]
      split
      ·unfold E6
       rw [Vh hs,Vh hsb]
       simp only [Option.bind_some]
       rw [Ae7 (Aa0 hs)]
       simp only [Option.bind_some]
       split
       ·exact .inr ⟨_,rfl,fun p u hh=>by cases hh;exact ⟨hb,hd3.mono (by omega)⟩,fun u hh=>by cases hh⟩
       ·rw [Af (by unfold InI;omega)]
        exact .inl ⟨_,rfl,⟨j+1,rfl,by omega,hd3.mono (by omega)⟩,by first | omega | (dsimp only;omega)⟩
      ·rw [Af (by unfold InI;omega)]
       exact .inl ⟨_,rfl,⟨j+1,rfl,by omega,hd3.mono (by omega)⟩,by first | omega | (dsimp only;omega)⟩
     ·rw [if_neg (by omega)]
      exact .inr ⟨_,rfl,fun p u hh=>(nomatch hh),fun u hh=>by cases hh;exact j2.mono (by omega)⟩) (s:=((0:Int),d2)) ⟨0,rfl,Nat.zero_le _,hd2.mono (by omega)⟩
    rw [e3]
    simp only [Option.bind_some]
    cases t with
    | inl q=>
      obtain ⟨q1,q2⟩:=q
      obtain ⟨s1,s2⟩:=t1 q1 q2 rfl
      exact ⟨_,rfl,fun p q u hh=>by cases hh;exact ⟨s1,ha,s2⟩,fun u hh=>by cases hh⟩
    | inr q=>exact ⟨_,rfl,fun p q u hh=>(nomatch hh),fun u hh=>by cases hh;exact t2 _ rfl⟩
   ·rw [if_neg c3]
    exact ⟨_,rfl,fun p q u hh=>(nomatch hh),fun u hh=>by cases hh;exact hd2.mono (by omega)⟩
  refine A12 (R:=fun a b d=>Cur (k+20000) d∧Ht a∧Ht b) (mid rfl) fun t ht=> ?_
  obtain ⟨t1,t2⟩:=ht
  cases t with
  | inl q=>
    obtain ⟨q1,q2,q3⟩:=q
    obtain ⟨s1,s2,s3⟩:=t1 q1 q2 q3 rfl
    exact ⟨_,_,_,rfl,s3.mono (by omega),s2,s1⟩
  | inr u=>
    have hu:=t2 u rfl
    dsimp only
    rw [Ax1 hs]
    simp only [Option.bind_some]
    have hot : ∀i,i<a.Ops.length→1≤(nth a.Ops i).Table.length:=by
     intro i hi
     obtain ⟨r,_,_,l1,_⟩:=hr.op hi
     have:=Nat.pow_pos (n:=r) hr.pos
     omega
    obtain ⟨⟨b,d3⟩,e3,hb,hd3⟩:=Cn (body:=Fa a) (fun s => ∃i:Nat,s.1=(i:Int)∧i≤a.Ops.length∧s.2.1.Ops.length=a.Ops.length∧(∀z,z<a.Ops.length→(nth s.2.1.Ops z).Table.length=(nth a.Ops z).Table.length)∧Cur (k+15000+4*i) s.2.2) (fun s=>a.Ops.length-s.1.toNat) (fun t=>Ht t.1∧Cur (k+20000) t.2) (by
     rintro ⟨x,b,c⟩ ⟨i,rfl,i1,i2,i3,i4⟩
     dsimp only at i2 i3 i4
     have hal:=ha.1
     unfold Fa
     dsimp only
     rw [i2]
     by_cases hi:i<a.Ops.length
     ·have h3:=i3 i hi
      have h4:=hot i hi
      rw [if_pos (by omega),Af (by omega),Int.toNat_natCast]
      obtain ⟨v,d4,e4,hd4,v0,v1⟩:=Dm i4 (by omega) ((nth b.Ops i).Table.length:Int)
      rw [e4]
      simp only [Option.bind_some]
      obtain ⟨w,d5,e5,hd5,_⟩:=Dm hd4 (by omega) b.Size
      rw [e5]
      simp only [Option.bind_some]
      rw [Af (by omega),Af (by unfold InI;omega)]
      refine .inl ⟨_,rfl,⟨i+1,rfl,by omega,by simpa using i2,fun z hz=> ?_,hd5.mono (by omega)⟩,by first | omega | (dsimp only;omega)⟩
      dsimp only
      rw [Ld _ _ _ _ (by omega)]
      split
      ·rename_i hh
       subst hh
       simp only [List.length_set];exact h3
      ·exact i3 z hz
     ·rw [if_neg (by omega)]
      refine .inr ⟨_,rfl,⟨by first | omega | (dsimp only;omega),fun f hf=> ?_⟩,i4.mono (by omega)⟩
      obtain ⟨z,hz,rfl⟩:=List.getElem_of_mem hf
      dsimp only at hz
      have h3:=i3 z (by omega)
      rw [G2 hz] at h3
      have:=ha.2 _ (Az (show z<a.Ops.length by omega))
      dsimp only
      omega) (s:=((0:Int),a,u)) ⟨0,rfl,Nat.zero_le _,rfl,fun _ _=>rfl,hu.mono (by omega)⟩
    rw [e3]
    exact ⟨_,_,_,rfl,hd3,ha,hb⟩
 ·rw [decide_eq_false hg,if_neg (by simp)]
  obtain ⟨b,d2,e2,hd2,hb⟩:=Q2 hd (by omega)
  rw [e2]
  exact ⟨_,_,_,rfl,hd2.mono (by omega),ha,hb⟩
end Go.Proofs.Ytmkgjnphianalaa.Ax
namespace Go.Proofs.Ytmkgjnphianalaa.Ax
open Go Classical
def Ain {σ:Type} (step:Nat→σ→Option σ):Nat→Nat→σ→Option σ
 | 0,_,s=>some s
 | c+1,i,s=>(step i s).bind (Ain step c (i+1))
theorem Adi {σ α τ:Type} {body:Int×σ→Option ((Int×σ) ⊕ (α ⊕ τ))} {step:Nat→σ→Option σ} (inv:σ→Prop) (out:σ→τ) (N:Nat)
  (h1 : ∀i s s',i<N→inv s→step i s=some s'→inv s'∧body ((i:Int),s)=some (.inl (((i+1:Nat):Int),s')))
  (h2 : ∀i s,i<N→inv s→step i s=none → ∃e,body ((i:Int),s)=some (.inr (.inl e)))
  (h3 : ∀s,inv s→body ((N:Int),s)=some (.inr (.inr (out s)))) : ∀c i s,i+c=N→inv s →
  (∃s',Ain step c i s=some s'∧inv s'∧Al body ((i:Int),s)=some (.inr (out s')))∨(Ain step c i s=none ∧ ∃e,Al body ((i:Int),s)=some (.inl e)):=by
 intro c
 induction c with
 | zero=>
   intro i s hi hs
   have:i=N:=by omega
   subst this
   exact .inl ⟨s,rfl,hs,Ck (h3 s hs)⟩
 | succ c ih=>
   intro i s hi hs
   simp only [Ain]
   cases e:step i s with
   | none=>
     obtain ⟨x,hx⟩:=h2 i s (by omega) hs e
     exact .inr ⟨rfl,x,Ck hx⟩
   | some s'=>
     obtain ⟨k1,k2⟩:=h1 i s s' (by omega) hs e
     rw [Fj k2]
     exact ih (i+1) s' (by omega) k1
theorem Aou {σ:Type} {step:Nat→σ→Option σ} (P:σ→Prop) : ∀c i s s',(∀j t t',i≤j→j<i+c→P t→step j t=some t'→P t')→P s→Ain step c i s=some s'→P s':=by
 intro c
 induction c with
 | zero=>intro i s s' _ h1 h2;cases h2;exact h1
 | succ c ih=>
   intro i s s' h h1 h2
   simp only [Ain] at h2
   obtain ⟨t,h3,h4⟩:=Option.bind_eq_some_iff.1 h2
   exact ih (i+1) t s' (fun j t t' k1 k2=>h j t t' (by omega) (by omega)) (h i s t (Nat.le_refl _) (by omega) h1 h3) h4
theorem Apw {σ:Type} {step:Nat→σ→Option σ} (P:σ→Prop) : ∀c i s,(∀j t,i≤j→j<i+c→P t → ∃t',step j t=some t'∧P t')→P s → ∃s',Ain step c i s=some s'∧P s':=by
 intro c
 induction c with
 | zero=>intro i s _ h1;exact ⟨s,rfl,h1⟩
 | succ c ih=>
   intro i s h h1
   simp only [Ain]
   obtain ⟨t,h2,h3⟩:=h i s (Nat.le_refl _) (by omega) h1
   rw [h2]
   exact ih (i+1) t (fun j t k1 k2=>h j t (by omega) (by omega)) h3
theorem Akn {σ:Type} {step:Nat→σ→Option σ} (P moved:σ→Prop) : ∀c i s s',(∀j t t',i≤j→j<i+c→P t→step j t=some t'→P t'∧(t'=t∨moved t')∧(moved t→moved t'))→P s→Ain step c i s=some s'→¬moved s' →
  s'=s ∧ ∀j,i≤j→j<i+c→step j s=some s:=by
 intro c
 induction c with
 | zero=>intro i s s' _ _ h2 _;cases h2;exact ⟨rfl,fun j k1 k2=>by omega⟩
 | succ c ih=>
   intro i s s' h h1 h2 h3
   simp only [Ain] at h2
   obtain ⟨t,h4,h5⟩:=Option.bind_eq_some_iff.1 h2
   obtain ⟨g1,g2,g3⟩:=h i s t (Nat.le_refl _) (by omega) h1 h4
   obtain ⟨e1,e2⟩:=ih (i+1) t s' (fun j t t' k1 k2=>h j t t' (by omega) (by omega)) g1 h5 h3
   subst e1
   rcases g2 with rfl | hm
   ·refine ⟨rfl,fun j k1 k2=> ?_⟩
    by_cases hj:j=i
    ·subst hj;exact h4
    ·exact e2 j (by omega) (by omega)
   ·exact absurd hm h3
def Kt (n:Nat) (g:List Int) (r k:Nat):List Int:=(Jm n r k).map fun x=>nth g x.toNat
theorem Ao2 (n:Nat) (g:List Int) (r k:Nat):Kt n g (r+1) k=Kt n g r (k/n)++[nth g (k%n)]:=by
 simp only [Kt,Jm,List.map_append,List.map_cons,List.map_nil,Int.toNat_natCast]
theorem P5 (n:Nat) (g:List Int) (r k:Nat):(Kt n g r k).length=r:=by simp [Kt,K0]
theorem Ajl {n m:Nat} (hn:0<n) {g:List Int} (hg:okF n m g) (r k:Nat) (h:(-1:Int)∉Kt n g r k):Ce (Kt n g r k) m:=by
 intro y hy
 obtain ⟨x,hx,rfl⟩:=List.mem_map.1 hy
 have h1:=Q9 hn r k x hx
 have h2:=hg.2 _ (Az (show x.toNat<g.length by have:=hg.1;omega))
 have h3:nth g x.toNat ≠ -1:=fun he=>h (List.mem_map.2 ⟨x,hx,he⟩)
 omega
noncomputable def Nr (a b:SAlgebra) (n m i k:Nat) (s:Bool×List Int):Option (Bool×List Int):=
 if (-1:Int)∈Kt n s.2 (nth a.Ops i).Arity.toNat k then some s
 else if 0≤nth s.2 (nth (nth a.Ops i).Table k).toNat then
  (if nth s.2 (nth (nth a.Ops i).Table k).toNat=nth (nth b.Ops i).Table (Wa m (Kt n s.2 (nth a.Ops i).Arity.toNat k)).toNat then some s else none)
 else some (true,s.2.set (nth (nth a.Ops i).Table k).toNat (nth (nth b.Ops i).Table (Wa m (Kt n s.2 (nth a.Ops i).Arity.toNat k)).toNat))
noncomputable def opZ (a b:SAlgebra) (n m i:Nat) (s:Bool×List Int):Option (Bool×List Int):=Ain (Nr a b n m i) (nth a.Ops i).Table.length 0 s
noncomputable def Z4 (a b:SAlgebra) (n m:Nat) (g:List Int):Option (Bool×List Int):=Ain (opZ a b n m) a.Ops.length 0 (false,g)
noncomputable def N4 (a b:SAlgebra) (n m:Nat):Nat→List Int→Option (List Int)
 | 0,g=>some g
 | k+1,g=>match Z4 a b n m g with
   | none=>none
   | some (c,g')=>if c=true then N4 a b n m k g' else some g'
noncomputable def Sg (a b:SAlgebra) (n m:Nat) (g:List Int):Option (List Int):=N4 a b n m (Be g+1) g
def ext (g h:List Int):Prop := ∀x,x<g.length→0≤nth g x→nth h x=nth g x
theorem Aal (g:List Int):ext g g:=fun _ _ _=>rfl
theorem U5 {f g h:List Int} (hl:f.length=g.length) (h1:ext f g) (h2:ext g h):ext f h:=fun x hx h0=>by
 have e:=h1 x hx h0
 rw [h2 x (by omega) (by omega),e]
section
variable {a b:SAlgebra} {n m:Nat}
theorem Pair.arity (h:Pair a b n m) {i:Nat} (hi:i<a.Ops.length):(nth a.Ops i).Arity.toNat≤3∧((nth a.Ops i).Arity:Int)=((nth a.Ops i).Arity.toNat:Nat)∧(nth a.Ops i).Table.length=n^(nth a.Ops i).Arity.toNat∧(nth b.Ops i).Table.length=m^(nth a.Ops i).Arity.toNat:=by
 obtain ⟨_,r,hr,e1,l1,l2,_⟩:=h.op hi
 rw [e1,Int.toNat_natCast]
 exact ⟨hr,rfl,l1,l2⟩
theorem A4w (h:Pair a b n m) {i k:Nat} (hi:i<a.Ops.length) {g:List Int} (hg:okF n m g) (ho:(-1:Int)∉Kt n g (nth a.Ops i).Arity.toNat k) :
  ∃p:Nat,Wa m (Kt n g (nth a.Ops i).Arity.toNat k)=(p:Int)∧p<(nth b.Ops i).Table.length∧0≤nth (nth b.Ops i).Table p∧nth (nth b.Ops i).Table p<m:=by
 obtain ⟨hn,hn8,hm,hm8⟩:=h.pos
 obtain ⟨_,r,hr,e1,l1,l2,t1,t2,_⟩:=h.op hi
 obtain ⟨hr3,_,_,l4⟩:=h.arity hi
 have hin:=Ajl hn hg _ k ho
 obtain ⟨p,hp1,hp2,_⟩:=Ka hm8 (xs:=Kt n g (nth a.Ops i).Arity.toNat k) (by rw [P5];exact hr3) hin
 rw [P5] at hp2
 have hp:p<(nth b.Ops i).Table.length:=by rw [l4];exact hp2
 have:=t2 _ (Az hp)
 exact ⟨p,hp1,hp,this.1,this.2⟩
theorem Aad (h:Pair a b n m) {i k:Nat} (hi:i<a.Ops.length) (hk:k<(nth a.Ops i).Table.length) {s s':Bool×List Int} (hs:okF n m s.2) (e:Nr a b n m i k s=some s') :
  okF n m s'.2∧ext s.2 s'.2∧Be s'.2≤Be s.2∧(s'=s∨(s'.1=true∧Be s'.2<Be s.2))∧(s.1=true→s'.1=true):=by
 obtain ⟨_,r,hr,e1,l1,l2,t1,t2,_⟩:=h.op hi
 have hv:=t1 _ (Az hk)
 have hl:=hs.1
 unfold Nr at e
 split at e
 ·cases e;exact ⟨hs,Aal _,Nat.le_refl _,.inl rfl,id⟩
 ·rename_i ho
  split at e
  ·split at e
   ·cases e;exact ⟨hs,Aal _,Nat.le_refl _,.inl rfl,id⟩
   ·cases e
  ·rename_i h0
   obtain ⟨p,hp1,hp2,hp3,hp4⟩:=A4w h hi hs ho
   rw [hp1,Int.toNat_natCast] at e
   cases e
   have hlt:=Nv (f:=s.2) (i:=(nth (nth a.Ops i).Table k).toNat) (by omega) (by omega) hp3
   refine ⟨hs.set ⟨hp3,hp4⟩,fun x hx hx0=> ?_,Nat.le_of_lt hlt,.inr ⟨rfl,hlt⟩,fun _=>rfl⟩
   show nth (s.2.set _ _) x=_
   rw [Ld _ _ _ _ hx]
   split
   ·rename_i e2;subst e2;omega
   ·rfl
theorem A0x (h:Pair a b n m) {i k:Nat} (hi:i<a.Ops.length) (hk:k<(nth a.Ops i).Table.length) {s:Bool×List Int} (hs:okF n m s.2) {f:List Int} (_hf:Homs a b f n m) (hn:¬faulty a b f n m) (he:ext s.2 f) :
  ∃s',Nr a b n m i k s=some s'∧ext s'.2 f:=by
 obtain ⟨hn0,_,_,_⟩:=h.pos
 obtain ⟨_,r,hr,e1,l1,l2,t1,t2,_⟩:=h.op hi
 have hv:=t1 _ (Az hk)
 have hl:=hs.1
 unfold Nr
 split
 ·exact ⟨s,rfl,he⟩
 ·rename_i ho
  have hin:=Ajl hn0 hs _ k ho
  have himg:Kt n s.2 (nth a.Ops i).Arity.toNat k=Kt n f (nth a.Ops i).Arity.toNat k:=by
   unfold Kt
   refine List.map_congr_left fun x hx=> ?_
   have h1:=Q9 hn0 _ k x hx
   exact (he x.toNat (by omega) (hin _ (List.mem_map.2 ⟨x,hx,rfl⟩)).1).symm
  have hval:nth f (nth (nth a.Ops i).Table k).toNat=nth (nth b.Ops i).Table (Wa m (Kt n s.2 (nth a.Ops i).Arity.toNat k)).toNat:=by
   rw [himg]
   unfold Kt
   rw [Wn]
   exact Classical.not_not.1 fun hx=>hn ⟨i,hi,k,hk,hx⟩
  rw [←hval]
  split
  ·rename_i h0
   rw [if_pos (he _ (by omega) h0).symm]
   exact ⟨s,rfl,he⟩
  ·refine ⟨_,rfl,fun x hx h1=> ?_⟩
   simp only [List.length_set] at hx
   show _=nth (s.2.set _ _) x
   have h2:0≤nth (s.2.set (nth (nth a.Ops i).Table k).toNat (nth f (nth (nth a.Ops i).Table k).toNat)) x:=h1
   rw [Ld _ _ _ _ hx] at h2 ⊢
   split at h2
   ·rename_i e2;rw [if_pos e2,e2]
   ·rename_i e2;rw [if_neg e2];exact he x hx h2
theorem Aru (h:Pair a b n m) {i:Nat} (hi:i<a.Ops.length) {s s':Bool×List Int} (hs:okF n m s.2) (e:opZ a b n m i s=some s') :
  okF n m s'.2∧ext s.2 s'.2∧Be s'.2≤Be s.2∧(s'=s∨(s'.1=true∧Be s'.2<Be s.2))∧(s.1=true→s'.1=true):=by
 refine Aou (step:=Nr a b n m i) (fun t=>okF n m t.2∧ext s.2 t.2∧Be t.2≤Be s.2∧(t=s∨(t.1=true∧Be t.2<Be s.2))∧(s.1=true→t.1=true)) _ 0 s s' ?_ ⟨hs,Aal _,Nat.le_refl _,.inl rfl,id⟩ e
 rintro j t t' _ hj ⟨g1,g2,g3,g4,g5⟩ h2
 obtain ⟨k1,k2,k3,k4,k5⟩:=Aad h hi (by omega) g1 h2
 refine ⟨k1,U5 (by rw [hs.1,g1.1]) g2 k2,by omega,?_,fun hh=>k5 (g5 hh)⟩
 rcases k4 with rfl | k4
 ·exact g4
 ·exact .inr ⟨k4.1,by omega⟩
theorem A4q (h:Pair a b n m) {i:Nat} (hi:i<a.Ops.length) {s:Bool×List Int} (hs:okF n m s.2) {f:List Int} (hf:Homs a b f n m) (hn:¬faulty a b f n m) (he:ext s.2 f) :
  ∃s',opZ a b n m i s=some s'∧okF n m s'.2∧ext s'.2 f:=by
 refine Apw (step:=Nr a b n m i) (fun t=>okF n m t.2∧ext t.2 f) _ 0 s ?_ ⟨hs,he⟩
 rintro j t _ hj ⟨g1,g2⟩
 obtain ⟨t',h1,h2⟩:=A0x h hi (show j<_ by omega) g1 hf hn g2
 exact ⟨t',h1,(Aad h hi (by omega) g1 h1).1,h2⟩
theorem Azo (h:Pair a b n m) {i:Nat} (hi:i<a.Ops.length) {g:List Int} (hs:okF n m g) (e:opZ a b n m i (false,g)=some (false,g)) : ∀k,k<(nth a.Ops i).Table.length→Nr a b n m i k (false,g)=some (false,g):=by
 have:=Akn (step:=Nr a b n m i) (fun t=>okF n m t.2) (fun t=>t.1=true) _ 0 (false,g) (false,g) (by
  rintro j t t' _ hj g1 h2
  obtain ⟨k1,k2,k3,k4,k5⟩:=Aad h hi (by omega) g1 h2
  exact ⟨k1,k4.imp id (·.1),k5⟩) hs e (by simp)
 exact fun k hk=>this.2 k (Nat.zero_le _) (by omega)
theorem Af1 (h:Pair a b n m) {g:List Int} {s':Bool×List Int} (hs:okF n m g) (e:Z4 a b n m g=some s') :
  okF n m s'.2∧ext g s'.2∧Be s'.2≤Be g∧(s'=(false,g)∨(s'.1=true∧Be s'.2<Be g)):=by
 refine Aou (step:=opZ a b n m) (fun t=>okF n m t.2∧ext g t.2∧Be t.2≤Be g∧(t=(false,g)∨(t.1=true∧Be t.2<Be g))) _ 0 (false,g) s' ?_ ⟨hs,Aal _,Nat.le_refl _,.inl rfl⟩ e
 rintro j t t' _ hj ⟨g1,g2,g3,g4⟩ h2
 obtain ⟨k1,k2,k3,k4,k5⟩:=Aru h (by omega) g1 h2
 refine ⟨k1,U5 (by rw [hs.1,g1.1]) g2 k2,by omega,?_⟩
 rcases k4 with rfl | k4
 ·exact g4
 ·exact .inr ⟨k4.1,by omega⟩
theorem Avl (h:Pair a b n m) {g:List Int} (hs:okF n m g) {f:List Int} (hf:Homs a b f n m) (hn:¬faulty a b f n m) (he:ext g f) :
  ∃s',Z4 a b n m g=some s'∧okF n m s'.2∧ext s'.2 f:=by
 refine Apw (step:=opZ a b n m) (fun t=>okF n m t.2∧ext t.2 f) _ 0 (false,g) ?_ ⟨hs,he⟩
 rintro j t _ hj ⟨g1,g2⟩
 exact A4q h (by omega) g1 hf hn g2
theorem Ar8 (h:Pair a b n m) {g:List Int} {s':Bool×List Int} (hs:okF n m g) (e:Z4 a b n m g=some s') (hc:¬s'.1=true) :
  s'=(false,g) ∧ ∀i,i<a.Ops.length → ∀k,k<(nth a.Ops i).Table.length→Nr a b n m i k (false,g)=some (false,g):=by
 have:=Akn (step:=opZ a b n m) (fun t=>okF n m t.2) (fun t=>t.1=true) _ 0 (false,g) s' (by
  rintro j t t' _ hj g1 h2
  obtain ⟨k1,k2,k3,k4,k5⟩:=Aru h (by omega) g1 h2
  exact ⟨k1,k4.imp id (·.1),k5⟩) hs e hc
 obtain ⟨rfl,h2⟩:=this
 exact ⟨rfl,fun i hi=>Azo h hi hs (h2 i (Nat.zero_le _) (by omega))⟩
theorem Ay3 (h:Pair a b n m) {g:List Int} (hs:okF n m g) (h0:Be g=0) (hc : ∀i,i<a.Ops.length → ∀k,k<(nth a.Ops i).Table.length→Nr a b n m i k (false,g)=some (false,g)):Uz a b g:=by
 obtain ⟨hn0,_,_,_⟩:=h.pos
 have hpos : ∀x∈g,0≤x:=by
  intro x hx
  have:=List.countP_eq_zero.1 h0 x hx
  simpa using this
 have hsz:Ce g m:=fun x hx=>⟨hpos x hx,(hs.2 x hx).2⟩
 have ha:a.Size.toNat=n:=by have:=h.sa;omega
 have hb:b.Size.toNat=m:=by have:=h.sb;omega
 refine ⟨h.al,⟨by rw [hs.1,h.sa],by rw [h.sb];exact hsz⟩,?_⟩
 rw [ha,hb]
 rintro ⟨i,hi,k,hk,hf⟩
 have e:=hc i hi k hk
 obtain ⟨_,r,hr,e1,l1,l2,t1,t2,_⟩:=h.op hi
 have hv:=t1 _ (Az hk)
 have hl:=hs.1
 unfold Nr at e
 split at e
 ·rename_i ho
  obtain ⟨x,hx,h1⟩:=List.mem_map.1 ho
  have h2:=Q9 hn0 _ k x hx
  have h3:=hpos _ (Az (show x.toNat<g.length by omega))
  have h1':nth g x.toNat = -1:=h1
  omega
 ·rw [if_pos (hpos _ (Az (by omega)))] at e
  split at e
  ·rename_i e2
   refine hf ?_
   rw [←Wn]
   exact e2
  ·cases e
theorem Ay6 (h:Pair a b n m) : ∀k g g',Be g<k→okF n m g→N4 a b n m k g=some g'→okF n m g'∧ext g g'∧Be g'≤Be g∧(Be g'=0→Uz a b g'):=by
 intro k
 induction k with
 | zero=>intro g g' hk;omega
 | succ k ih=>
   intro g g' hk hg e
   simp only [N4] at e
   split at e
   ·cases e
   ·rename_i c g1 e1
    obtain ⟨k1,k2,k3,k4⟩:=Af1 h hg e1
    split at e
    ·rename_i hc
     rcases k4 with k4 | k4
     ·cases k4;cases hc
     ·obtain ⟨i1,i2,i3,i4⟩:=ih g1 g' (by have:=k4.2;simp only at this;omega) k1 e
      exact ⟨i1,U5 (by rw [hg.1,k1.1]) k2 i2,by simp only at k3;omega,i4⟩
    ·rename_i hc
     cases e
     obtain ⟨e2,h2⟩:=Ar8 h hg e1 hc
     cases e2
     exact ⟨k1,k2,k3,fun h0=>Ay3 h hg h0 h2⟩
theorem Awc (h:Pair a b n m) {f:List Int} (hf:Homs a b f n m) (hn:¬faulty a b f n m) : ∀k g,okF n m g→ext g f → ∃g',N4 a b n m k g=some g'∧ext g' f:=by
 intro k
 induction k with
 | zero=>intro g _ he;exact ⟨g,rfl,he⟩
 | succ k ih=>
   intro g hg he
   obtain ⟨⟨c,g1⟩,e1,h1,h2⟩:=Avl h hg hf hn he
   simp only [N4,e1]
   split
   ·exact ih g1 h1 h2
   ·exact ⟨g1,rfl,h2⟩
theorem Mf (h:Pair a b n m) {g g':List Int} (hg:okF n m g) (e:Sg a b n m g=some g'):okF n m g'∧ext g g'∧Be g'≤Be g∧(Be g'=0→Uz a b g'):=Ay6 h _ g g' (Nat.lt_succ_self _) hg e
theorem Ajs (h:Pair a b n m) {f g:List Int} (hg:okF n m g) (hf:Uz a b f) (he:ext g f) : ∃g',Sg a b n m g=some g'∧ext g' f:=by
 have ha:a.Size.toNat=n:=by have:=h.sa;omega
 have hb:b.Size.toNat=m:=by have:=h.sb;omega
 have H:=Axn h.al hf.2.1
 have hF:=hf.2.2
 rw [ha,hb] at H hF
 exact Awc h H hF _ g hg he
theorem Aph (h:Pair a b n m) {i k:Nat} (hi:i<a.Ops.length) (hk:k<(nth a.Ops i).Table.length) {s:Bool×List Int} (hs:okF n m s.2) :
  B7 a b (i:Int) ((k:Int),s)=match Nr a b n m i k s with | some s'=>some (.inl (((k+1:Nat):Int),s')) | none=>some (.inr (.inl ())):=by
 obtain ⟨hn,hn8,hm,hm8⟩:=h.pos
 obtain ⟨hib,r,hr,e1,l1,l2,t1,t2,l3⟩:=h.op hi
 have h4:=h.al.1.2.2.1
 have hv:=t1 _ (Az hk)
 have hal:=K0 n r k
 have hgl:=hs.1
 have hai:=Q9 hn r k
 obtain ⟨c,g⟩:=s
 dsimp only at hs hgl
 have er:(nth a.Ops i).Arity.toNat=r:=by omega
 unfold B7 Nr
 dsimp only
 rw [er,Af (by omega),Int.toNat_natCast,if_pos (by omega),Af (by omega),e1,h.sa,Aaq hn hn8 hr (by omega)]
 simp only [Option.bind_some]
 rw [Amc (by omega) (by rw [hgl];exact hai)]
 simp only [Option.bind_some]
 rw [Th _ _ (by have:=Ay;rw [List.length_map];omega)]
 simp only [Option.bind_some]
 show (if decide ((-1:Int)∈Kt n g r k)=true then _ else _)=_
 by_cases hop:(-1:Int)∈Kt n g r k
 ·rw [if_pos hop,decide_eq_true hop,if_pos rfl,Af (by unfold InI;omega)]
  rfl
 ·have hin:=Ajl hn hs r k hop
  obtain ⟨p,hp1,hp2,_⟩:=Ka hm8 (xs:=Kt n g r k) (by rw [P5];omega) hin
  rw [P5] at hp2
  rw [if_neg hop,decide_eq_false hop,if_neg (by simp),Af (by omega),Af (by omega),Int.toNat_natCast]
  have ev:F9 b (i:Int) ((Jm n r k).map fun x=>nth g x.toNat)=some (nth (nth b.Ops i).Table p):=by
   have:=Aqz hm8 h.sb hib (xs:=Kt n g r k) (by rw [P5];omega) hin (by rw [P5];exact l2)
   rw [hp1,Int.toNat_natCast] at this
   exact this
  rw [ev,hp1,Int.toNat_natCast]
  simp only [Option.bind_some]
  have hw:=t2 _ (Az (show p<(nth b.Ops i).Table.length by omega))
  rw [Af (by omega)]
  by_cases h0:0≤nth g (nth (nth a.Ops i).Table k).toNat
  ·rw [if_pos (show nth g (nth (nth a.Ops i).Table k).toNat≥0 from h0),if_pos h0,Af (by omega)]
   by_cases hne:nth g (nth (nth a.Ops i).Table k).toNat=nth (nth b.Ops i).Table p
   ·rw [if_neg (by simpa using hne),if_pos hne]
    simp only [Option.bind_some]
    rw [Af (by omega),if_neg (by omega),Af (by unfold InI;omega)]
    rfl
   ·rw [if_pos hne,if_neg hne]
    rfl
  ·rw [if_neg (show ¬nth g (nth (nth a.Ops i).Table k).toNat≥0 from h0),if_neg h0]
   simp only [Option.bind_some]
   rw [Af (by omega),if_pos (by omega),Af (by omega),Af (by unfold InI;omega)]
   rfl
theorem At9 (hn:0<n) {g:List Int} (hg:okF n m g) : ∀(r k:Nat),r≤3→k≤1048576→Al (C6 n g) ((k:Int),(r:Int))=some (if (-1:Int)∈Kt n g r k then .inl () else .inr ()):=by
 intro r
 induction r with
 | zero=>
   intro k _ _
   refine Ck ?_
   unfold C6
   dsimp only
   rw [if_neg (by omega),if_neg (by simp [Kt,Jm])]
 | succ r ih=>
   intro k hr hk
   have hkn:=Nat.mod_lt k hn
   have hd:k/n≤k:=Nat.div_le_self k n
   have hl:=hg.1
   have hv:=hg.2 _ (Az (show k%n<g.length by omega))
   have c1:(k:Int).tdiv (n:Int)=((k/n:Nat):Int):=rfl
   have c2:(k:Int).tmod (n:Int)=((k%n:Nat):Int):=rfl
   rw [Ao2]
   by_cases h0:nth g (k%n)<0
   ·have:nth g (k%n) = -1:=by omega
    rw [if_pos (by rw [List.mem_append,List.mem_singleton];exact .inr this.symm)]
    refine Ck ?_
    unfold C6
    dsimp only
    rw [c2,Int.toNat_natCast,if_pos (by omega),Af (by omega),Af (by omega),if_pos h0]
   ·have step:C6 n g ((k:Int),((r+1:Nat):Int))=some (.inl (((k/n:Nat):Int),(r:Int))):=by
     unfold C6
     dsimp only
     rw [c1,c2,Int.toNat_natCast]
     generalize k/n=kd at hd
     generalize k%n=km at hkn h0
     rw [if_pos (by omega),Af (by omega),Af (by omega),if_neg h0,Af (by unfold InI;omega),Af (by unfold InI;omega),show ((r+1:Nat):Int)-1=(r:Int) by omega]
    rw [Fj step,ih (k/n) (by omega) (by omega)]
    by_cases hx:(-1:Int)∈Kt n g r (k/n)
    ·rw [if_pos hx,if_pos (by rw [List.mem_append];exact .inl hx)]
    ·rw [if_neg hx,if_neg (by rw [List.mem_append,List.mem_singleton];rintro (h1 | h1);exact hx h1;omega)]
theorem Axi (hn:0<n) {g:List Int} (hg:okF n m g) {r k:Nat} (hr:r≤3) (hk:k≤1048576):Ih k r n g=some (decide ((-1:Int)∉Kt n g r k)):=by
 unfold Ih
 rw [At9 hn hg r k hr hk]
 by_cases hx:(-1:Int)∈Kt n g r k
 ·rw [if_pos hx,decide_eq_false (by simpa using hx)];rfl
 ·rw [if_neg hx,decide_eq_true hx];rfl
theorem Azl (hn:0<n) (hm:m≤8) (ha:a.Size=n) (hb:b.Size=m) {f:List Int} (hf:f.length=n) {ar:Nat} (har:ar≤3) : ∀(r j s acc k:Nat),Ce (Kt n f r k) m→j+r=ar→s*8^r≤512→acc≤4096*j→k≤1048576 →
  Al (Bj ar a b f) ((j:Int),(s:Int),(acc:Int),(k:Int))=some ((acc:Int)+(s:Int)*Y1 n m f r k):=by
 intro r
 induction r with
 | zero=>
   intro j s acc k _ hj _ _ _
   refine Ck ?_
   unfold Bj
   dsimp only
   rw [if_neg (by omega)]
   simp [Y1]
 | succ r ih=>
   intro j s acc k hfx hj hs hacc hk
   rw [Ao2] at hfx
   have hkn:=Nat.mod_lt k hn
   have hv:=hfx (nth f (k%n)) (by simp)
   obtain ⟨c,hc⟩:=Int.eq_ofNat_of_zero_le hv.1
   have hd:k/n≤k:=Nat.div_le_self k n
   have hp:0<8^r:=Nat.pow_pos (by omega)
   rw [Nat.pow_succ] at hs
   have hs8:s*8≤512:=by
    have:s*8*1≤s*8*8^r:=Nat.mul_le_mul_left _ hp
    rw [Nat.mul_assoc,Nat.mul_assoc,Nat.mul_comm 8 (8^r)] at this
    omega
   have hsm:s*m≤s*8:=Nat.mul_le_mul_left _ hm
   have hcs:c*s≤8*64:=Nat.mul_le_mul (by omega) (by omega)
   have c1:(k:Int).tdiv (n:Int)=((k/n:Nat):Int):=rfl
   have c2:(k:Int).tmod (n:Int)=((k%n:Nat):Int):=rfl
   have step:Bj ar a b f ((j:Int),(s:Int),(acc:Int),(k:Int))=some (.inl (((j+1:Nat):Int),((s*m:Nat):Int),((acc+c*s:Nat):Int),((k/n:Nat):Int))):=by
    unfold Bj
    dsimp only
    rw [ha,hb,c1,c2,Int.toNat_natCast,hc]
    have e1:(c:Int)*(s:Int)=((c*s:Nat):Int):=by push_cast;rfl
    have e2:(s:Int)*(m:Int)=((s*m:Nat):Int):=by push_cast;rfl
    rw [e1,e2]
    generalize k/n=kd at hd
    generalize k%n=km at hkn
    generalize c*s=cs at hcs
    generalize s*m=sm at hsm
    rw [if_pos (by omega)]
    repeat rw [Af (by first | omega | (unfold InI;omega))]
    rfl
   have hb2:s*m*8^r≤512:=by
    have h1:s*m*8^r≤s*8*8^r:=Nat.mul_le_mul_right _ hsm
    rw [Nat.mul_assoc s 8,Nat.mul_comm 8 (8^r)] at h1
    omega
   rw [Fj step,ih (j+1) (s*m) (acc+c*s) (k/n) (fun z hz=>hfx z (List.mem_append_left _ hz)) (by omega) hb2 (by omega) (by omega)]
   simp only [Y1,hc]
   congr 1
   push_cast
   exact Aov _ _ _ _ _
theorem A16 (hn:0<n) (hm:m≤8) (ha:a.Size=n) (hb:b.Size=m) {f:List Int} (hf:f.length=n) {ar:Nat} (har:ar≤3) {k:Nat} (hk:k≤1048576) (hfx:Ce (Kt n f ar k) m) :
  Dk k ar a b f=some (Wa m (Kt n f ar k)):=by
 unfold Dk
 have h8:1*8^ar≤512:=by rw [Nat.one_mul];exact Zp (by omega) har
 have key:=Azl hn hm ha hb hf har ar 0 1 0 k hfx (by omega) h8 (by omega) hk
 have key':Al (Bj ar a b f) (0,1,0,(k:Int))=some (Y1 n m f ar k):=by simpa using key
 rw [key']
 unfold Kt
 rw [Wn];rfl
theorem Apm (h:Pair a b n m) {i k:Nat} (hi:i<a.Ops.length) (hk:k<(nth a.Ops i).Table.length) {s:Bool×List Int} (hs:okF n m s.2) :
  Cw a b (i:Int) ((k:Int),s)=match Nr a b n m i k s with | some s'=>some (.inl (((k+1:Nat):Int),s')) | none=>some (.inr (.inl s.2)):=by
 obtain ⟨hn,hn8,hm,hm8⟩:=h.pos
 obtain ⟨hib,r,hr,e1,l1,l2,t1,t2,l3⟩:=h.op hi
 have hv:=t1 _ (Az hk)
 have hgl:=hs.1
 obtain ⟨c,g⟩:=s
 dsimp only at hs hgl
 have er:(nth a.Ops i).Arity.toNat=r:=by omega
 unfold Cw Nr
 dsimp only
 rw [er,Int.toNat_natCast,if_pos (by omega),Af (by omega),e1,h.sa,Axi hn hs hr (by omega)]
 simp only [Option.bind_some]
 by_cases hop:(-1:Int)∈Kt n g r k
 ·rw [if_pos hop,decide_eq_false (by simpa using hop),if_neg (by simp),Af (by unfold InI;omega)]
  rfl
 ·have hin:=Ajl hn hs r k hop
  obtain ⟨p,hp1,hp2,_⟩:=Ka hm8 (xs:=Kt n g r k) (by rw [P5];omega) hin
  rw [P5] at hp2
  rw [if_neg hop,decide_eq_true hop,if_pos rfl,Af (by omega),A16 hn hm8 h.sa h.sb hgl hr (by omega) hin,hp1]
  simp only [Option.bind_some]
  rw [Int.toNat_natCast,Af (by omega),Int.toNat_natCast,Af (by omega)]
  by_cases h0:0≤nth g (nth (nth a.Ops i).Table k).toNat
  ·rw [if_neg (show ¬nth g (nth (nth a.Ops i).Table k).toNat<0 by omega),if_pos h0,Af (by omega)]
   by_cases hne:nth g (nth (nth a.Ops i).Table k).toNat=nth (nth b.Ops i).Table p
   ·rw [if_neg (by simpa using hne),if_pos hne,Af (by unfold InI;omega)]
    rfl
   ·rw [if_pos hne,if_neg hne]
  ·rw [if_pos (show nth g (nth (nth a.Ops i).Table k).toNat<0 by omega),if_neg h0,Af (by omega),Af (by unfold InI;omega)]
   rfl
theorem Axp (h:Pair a b n m) {i:Nat} (hi:i<a.Ops.length) {s:Bool×List Int} (hs:okF n m s.2) :
  (∃s',opZ a b n m i s=some s'∧Al (B7 a b (i:Int)) (0,s)=some (.inr s'))∨(opZ a b n m i s=none∧Al (B7 a b (i:Int)) (0,s)=some (.inl ())):=by
 rcases Adi (body:=B7 a b (i:Int)) (step:=Nr a b n m i) (fun t=>okF n m t.2) id (nth a.Ops i).Table.length (fun k s s' hk hs e=>⟨(Aad h hi hk hs e).1,by rw [Aph h hi hk hs,e]⟩)
  (fun k s hk hs e=>⟨(),by rw [Aph h hi hk hs,e]⟩) (fun s hs=>by
   unfold B7
   dsimp only
   rw [Af (by omega),Int.toNat_natCast,if_neg (by omega)];rfl) (nth a.Ops i).Table.length 0 s (by omega) hs with ⟨s',h1,_,h3⟩ | ⟨h1,e,h3⟩
 ·exact .inl ⟨s',h1,h3⟩
 ·exact .inr ⟨h1,h3⟩
theorem Ayi (h:Pair a b n m) {i:Nat} (hi:i<a.Ops.length) {s:Bool×List Int} (hs:okF n m s.2) :
  (∃s',opZ a b n m i s=some s'∧Al (Cw a b (i:Int)) (0,s)=some (.inr s'))∨(opZ a b n m i s=none ∧ ∃e,Al (Cw a b (i:Int)) (0,s)=some (.inl e)):=by
 rcases Adi (body:=Cw a b (i:Int)) (step:=Nr a b n m i) (fun t=>okF n m t.2) id (nth a.Ops i).Table.length (fun k s s' hk hs e=>⟨(Aad h hi hk hs e).1,by rw [Apm h hi hk hs,e]⟩)
  (fun k s hk hs e=>⟨s.2,by rw [Apm h hi hk hs,e]⟩) (fun s hs=>by
   unfold Cw
   dsimp only
   rw [Int.toNat_natCast,if_neg (by omega)];rfl) (nth a.Ops i).Table.length 0 s (by omega) hs with ⟨s',h1,_,h3⟩ | ⟨h1,e,h3⟩
 ·exact .inl ⟨s',h1,h3⟩
 ·exact .inr ⟨h1,e,h3⟩
theorem Aul (h:Pair a b n m) {g:List Int} (hs:okF n m g) :
  (∃s',Z4 a b n m g=some s'∧Al (B8 a b) (0,false,g)=some (.inr s'))∨(Z4 a b n m g=none∧Al (B8 a b) (0,false,g)=some (.inl ())):=by
 have h4:=h.al.1.2.2.1
 rcases Adi (body:=B8 a b) (step:=opZ a b n m) (fun t=>okF n m t.2) id a.Ops.length (fun i s s' hi hs e=>⟨(Aru h hi hs e).1,by
   rcases Axp h hi hs with ⟨s2,e2,e3⟩ | ⟨e2,_⟩
   ·rw [e] at e2;cases e2
    unfold B8
    obtain ⟨c,g⟩:=s
    dsimp only
    rw [if_pos (by omega),e3]
    simp only [Option.bind_some]
    rw [Af (by unfold InI;omega)];rfl
   ·rw [e] at e2;cases e2⟩)
  (fun i s hi hs e=>⟨(),by
   rcases Axp h hi hs with ⟨s2,e2,e3⟩ | ⟨_,e3⟩
   ·rw [e] at e2;cases e2
   ·unfold B8
    obtain ⟨c,g⟩:=s
    dsimp only
    rw [if_pos (by omega),e3];rfl⟩) (fun s hs=>by
   unfold B8
   dsimp only
   rw [if_neg (by omega)];rfl) a.Ops.length 0 (false,g) (by omega) hs with ⟨s',h1,_,h3⟩ | ⟨h1,e,h3⟩
 ·exact .inl ⟨s',h1,h3⟩
 ·exact .inr ⟨h1,h3⟩
theorem Au5 (h:Pair a b n m) {g:List Int} (hs:okF n m g) :
  (∃s',Z4 a b n m g=some s'∧Al (Cu a b) (0,false,g)=some (.inr s'))∨(Z4 a b n m g=none ∧ ∃e,Al (Cu a b) (0,false,g)=some (.inl e)):=by
 have h4:=h.al.1.2.2.1
 rcases Adi (body:=Cu a b) (step:=opZ a b n m) (fun t=>okF n m t.2) id a.Ops.length (fun i s s' hi hs e=>⟨(Aru h hi hs e).1,by
   rcases Ayi h hi hs with ⟨s2,e2,e3⟩ | ⟨e2,_⟩
   ·rw [e] at e2;cases e2
    unfold Cu
    obtain ⟨c,g⟩:=s
    dsimp only
    rw [if_pos (by omega),Af (by omega),e3]
    simp only [Option.bind_some]
    rw [Af (by unfold InI;omega)];rfl
   ·rw [e] at e2;cases e2⟩)
  (fun i s hi hs e=>by
   rcases Ayi h hi hs with ⟨s2,e2,e3⟩ | ⟨_,q,e3⟩
   ·rw [e] at e2;cases e2
   ·refine ⟨q,?_⟩
    unfold Cu
    obtain ⟨c,g⟩:=s
    dsimp only
    rw [if_pos (by omega),Af (by omega),e3];rfl) (fun s hs=>by
   unfold Cu
   dsimp only
   rw [if_neg (by omega)];rfl) a.Ops.length 0 (false,g) (by omega) hs with ⟨s',h1,_,h3⟩ | ⟨h1,e,h3⟩
 ·exact .inl ⟨s',h1,h3⟩
 ·exact .inr ⟨h1,e,h3⟩
theorem At5 (h:Pair a b n m) : ∀k g,Be g<k→okF n m g →
  Al (Cp a b) (true,g)=match N4 a b n m k g with | some g'=>some (.inr g') | none=>some (.inl ()):=by
 intro k
 induction k with
 | zero=>intro g hk;omega
 | succ k ih=>
   intro g hk hg
   simp only [N4]
   rcases Aul h hg with ⟨⟨c,g1⟩,e1,e2⟩ | ⟨e1,e2⟩
   ·rw [e1]
    have step:Cp a b (true,g)=some (.inl (c,g1)):=by
     unfold Cp
     dsimp only
     rw [if_pos rfl,e2];rfl
    rw [Fj step]
    obtain ⟨k1,k2,k3,k4⟩:=Af1 h hg e1
    dsimp only
    by_cases hc:c=true
    ·subst hc
     rcases k4 with k4 | k4
     ·cases k4
     ·rw [if_pos rfl]
      exact ih g1 (by have:=k4.2;simp only at this;omega) k1
    ·have hc':c=false:=by simpa using hc
     subst hc'
     rw [if_neg (by simp)]
     refine Ck ?_
     unfold Cp
     rfl
   ·rw [e1]
    refine Ck ?_
    unfold Cp
    dsimp only
    rw [if_pos rfl,e2];rfl
theorem Auy (h:Pair a b n m) : ∀k g,Be g<k→okF n m g →
  (∃g',N4 a b n m k g=some g'∧Al (Cv a b) (true,g)=some (.inr g'))∨(N4 a b n m k g=none ∧ ∃e,Al (Cv a b) (true,g)=some (.inl e)):=by
 intro k
 induction k with
 | zero=>intro g hk;omega
 | succ k ih=>
   intro g hk hg
   simp only [N4]
   rcases Au5 h hg with ⟨⟨c,g1⟩,e1,e2⟩ | ⟨e1,q,e2⟩
   ·rw [e1]
    have step:Cv a b (true,g)=some (.inl (c,g1)):=by
     unfold Cv
     dsimp only
     rw [if_pos rfl,e2];rfl
    rw [Fj step]
    obtain ⟨k1,k2,k3,k4⟩:=Af1 h hg e1
    dsimp only
    by_cases hc:c=true
    ·subst hc
     rcases k4 with k4 | k4
     ·cases k4
     ·rw [if_pos rfl]
      exact ih g1 (by have:=k4.2;simp only at this;omega) k1
    ·have hc':c=false:=by simpa using hc
     subst hc'
     rw [if_neg (by simp)]
     refine .inl ⟨g1,rfl,Ck ?_⟩
     unfold Cv
     rfl
   ·rw [e1]
    refine .inr ⟨rfl,q,Ck ?_⟩
    unfold Cv
    dsimp only
    rw [if_pos rfl,e2];rfl
theorem Aaz (h:Pair a b n m) {g:List Int} (hg:okF n m g):Do a b g=some (match Sg a b n m g with | some g'=>(g',true) | none=>([],false)):=by
 obtain ⟨hn,hn8,hm,hm8⟩:=h.pos
 have hL:=Ay
 unfold Do
 rw [Ag4 (by have:=hg.1;omega)]
 simp only [Option.bind_some]
 rw [At5 h (Be g+1) g (Nat.lt_succ_self _) hg]
 show _=some (match N4 a b n m (Be g+1) g with | some g'=>(g',true) | none=>([],false))
 cases N4 a b n m (Be g+1) g<;>rfl
theorem Ak9 (h:Pair a b n m) {g:List Int} (hg:okF n m g):(∃g',Sg a b n m g=some g'∧Fm a b g=some (true,g'))∨(Sg a b n m g=none ∧ ∃e,Fm a b g=some (false,e)):=by
 unfold Fm
 rcases Auy h (Be g+1) g (Nat.lt_succ_self _) hg with ⟨g',e1,e2⟩ | ⟨e1,q,e2⟩
 ·exact .inl ⟨g',e1,by rw [e2];rfl⟩
 ·exact .inr ⟨e1,q,by rw [e2];rfl⟩
end
end Go.Proofs.Ytmkgjnphianalaa.Ax
namespace Go.Proofs.Ytmkgjnphianalaa.Ax
open Go Classical
theorem Zd {xs:List Int} (h:xs.length≤LIM):Ea xs=some xs:=by
 unfold Ea
 rw [Af (by show 0+xs.length≤_;omega)];rfl
def Mh (f:List Int):Prop := ∀i,i<f.length→0≤nth f i→nth f i∉f.take i
theorem Agi {f:List Int} (hl:f.length≤1048576):E3 f=some (decide (Mh f)):=by
 have hL:=Ay
 unfold E3
 have this:=Dn (body:=Dd f) (fun i=>(i:Int)) f.length (fun i=>0≤nth f i∧nth f i∈f.take i) () () (fun i hi hb=>by
  unfold Dd
  rw [if_pos (by omega),Af (by omega),Int.toNat_natCast]
  by_cases h0:nth f i≥0
  ·rw [if_pos h0,Af (by omega),Af (by omega),Th _ _ (by simp;omega)]
   simp only [Option.bind_some,Int.toNat_zero,List.drop_zero,Nat.sub_zero]
   rw [decide_eq_false (fun hc=>hb ⟨h0,hc⟩),if_neg (by simp),Af (by unfold InI;omega)];rfl
  ·rw [if_neg h0,Af (by unfold InI;omega)];rfl) (fun i hi hb=>by
  unfold Dd
  rw [if_pos (by omega),Af (by omega),Int.toNat_natCast,if_pos hb.1,Af (by omega),Af (by omega),Th _ _ (by simp;omega)]
  simp only [Option.bind_some,Int.toNat_zero,List.drop_zero,Nat.sub_zero]
  rw [decide_eq_true hb.2,if_pos rfl]) (by
  unfold Dd
  rw [if_neg (by omega)]) 0 (by omega)
 refine (F2 this false true).trans ?_
 by_cases hx:Mh f
 ·rw [decide_eq_true hx,if_neg]
  rintro ⟨i,_,hi,h0,hm⟩
  exact hx i hi h0 hm
 ·rw [decide_eq_false hx,if_pos]
  refine Classical.byContradiction fun hc=>hx fun i hi h0 hm=>hc ⟨i,by omega,hi,h0,hm⟩
theorem A0h {m:Nat} (hm:m≤100) {f:List Int} (hl:f.length≤1048576):Fx (m:Int) f=some (decide (∀x,x<m→(x:Int)∈f)):=by
 have hL:=Ay
 unfold Fx
 have this:=Dn (body:=De (m:Int) f) (fun i=>(i:Int)) m (fun i=>(i:Int)∉f) () () (fun i hi hb=>by
  unfold De
  rw [if_pos (by omega),Th _ _ (by omega)]
  simp only [Option.bind_some]
  rw [decide_eq_true (Classical.not_not.1 hb),if_pos rfl,Af (by unfold InI;omega)];rfl) (fun i hi hb=>by
  unfold De
  rw [if_pos (by omega),Th _ _ (by omega)]
  simp only [Option.bind_some]
  rw [decide_eq_false hb,if_neg (by simp)]) (by
  unfold De
  rw [if_neg (by omega)]) 0 (by omega)
 refine (F2 this false true).trans ?_
 by_cases hx : ∀x,x<m→(x:Int)∈f
 ·rw [decide_eq_true hx,if_neg]
  rintro ⟨i,_,hi,hm⟩
  exact hm (hx i hi)
 ·rw [decide_eq_false hx,if_pos]
  refine Classical.byContradiction fun hc=>hx fun i hi=>Classical.byContradiction fun hm=>hc ⟨i,by omega,hi,hm⟩
def B5:List Int→Nat
 | []=>0
 | x::r=>if x<0 then 0 else B5 r+1
theorem P2 : ∀f:List Int,B5 f≤f.length
 | []=>Nat.le_refl _
 | x::r=>by
   have:=P2 r
   simp only [B5,List.length_cons]
   split<;>omega
theorem Aau : ∀(f:List Int) (j:Nat),j<B5 f→0≤nth f j
 | [],j,h=>by simp [B5] at h
 | x::r,j,h=>by
   simp only [B5] at h
   split at h
   ·omega
   ·cases j with
    | zero=>simp only [nth,List.getD_cons_zero];omega
    | succ j=>
      have:=Aau r j (by omega)
      simpa [nth] using this
theorem P1 : ∀(f:List Int),B5 f<f.length→nth f (B5 f)<0
 | [],h=>by simp [B5] at h
 | x::r,h=>by
   simp only [B5] at h ⊢
   split
   ·rename_i hx;simpa [nth] using hx
   ·rename_i hx
    rw [if_neg hx] at h
    have:=P1 r (by simpa using h)
    simpa [nth] using this
theorem Ac0 {f:List Int}:Be f=0 ↔ ∀x∈f,0≤x:=by
 unfold Be
 rw [List.countP_eq_zero]
 constructor
 ·intro h x hx;have:=h x hx;simpa using this
 ·intro h x hx;have:=h x hx;simpa using this
theorem Ac1 {f:List Int}:B5 f=f.length↔Be f=0:=by
 rw [Ac0]
 constructor
 ·intro h x hx
  obtain ⟨i,hi,rfl⟩:=I9.1 hx
  exact Aau f i (by omega)
 ·intro h
  rcases Nat.lt_or_ge (B5 f) f.length with h1 | h1
  ·have:=P1 f h1
   have:=h _ (Az h1)
   omega
  ·have:=P2 f;omega
theorem Awd {s:ShomSearch} {f:List Int} (hl:f.length≤1048576):Al (Ca s f) 0=some (B5 f:Int):=by
 have h1:=P2 f
 refine C4 (body:=Ca s f) (fun i=>(i:Int)) (B5 f) _ (fun i hi=> ?_) ?_
 ·have:=Aau f i hi
  unfold Ca
  rw [if_pos (by omega),Af (by omega),Int.toNat_natCast,if_pos this,Af (by unfold InI;omega)];rfl
 ·unfold Ca
  rcases Nat.lt_or_ge (B5 f) f.length with h2 | h2
  ·have:=P1 f h2
   rw [if_pos (by omega),Af (by omega),Int.toNat_natCast,if_neg (by omega)]
  ·rw [if_neg (by omega)]
theorem Awj {s:Sl7Search} {f:List Int} (hl:f.length≤1048576):Al (Bu s f) 0=some (B5 f:Int):=by
 have h1:=P2 f
 refine C4 (body:=Bu s f) (fun i=>(i:Int)) (B5 f) _ (fun i hi=> ?_) ?_
 ·have:=Aau f i hi
  unfold Bu
  rw [if_pos (by omega),Af (by omega),Int.toNat_natCast,if_pos this,Af (by unfold InI;omega)];rfl
 ·unfold Bu
  rcases Nat.lt_or_ge (B5 f) f.length with h2 | h2
  ·have:=P1 f h2
   rw [if_pos (by omega),Af (by omega),Int.toNat_natCast,if_neg (by omega)]
  ·rw [if_neg (by omega)]
abbrev SS:=Nat×List (List Int)
def Df (M:Nat) (s:SS):Prop:=M≤s.2.length∨5000<s.1
noncomputable def Hp (rec_:SS→List Int→SS) (cl:List Int→Option (List Int)) (M:Nat) (f:List Int) (q:Nat):Nat→Nat→SS→SS
 | 0,_,s=>s
 | c+1,y,s=>if Df M s then s else
   if s.1+1>5000 then (s.1+1,s.2) else
   match cl (f.set q (y:Int)) with
   | some g=>Hp rec_ cl M f q c (y+1) (rec_ (s.1+1,s.2) g)
   | none=>Hp rec_ cl M f q c (y+1) (s.1+1,s.2)
noncomputable def Ib (cl:List Int→Option (List Int)) (acc:List Int→Prop) (m M:Nat):Nat→SS→List Int→SS
 | 0,s,_=>s
 | k+1,s,f=>if B5 f=f.length then (if acc f then (s.1,s.2++[f]) else s)
   else Hp (Ib cl acc m M k) cl M f (B5 f) m 0 s
theorem Al8 {rec_:SS→List Int→SS} {cl:List Int→Option (List Int)} {M:Nat} {f:List Int} {q c y:Nat} {s:SS} (h:Df M s):Hp rec_ cl M f q c y s=s:=by
 cases c with
 | zero=>rfl
 | succ c=>simp only [Hp];rw [if_pos h]
theorem A2v {cl:List Int→Option (List Int)} {acc:List Int→Prop} {m M:Nat} : ∀k s f,¬Df M s→(Ib cl acc m M k s f).2.length≤M∧(Ib cl acc m M k s f).1≤5001∧s.1≤(Ib cl acc m M k s f).1:=by
 intro k
 induction k with
 | zero=>intro s f h;unfold Df at h;simp only [Ib];omega
 | succ k ih=>
   intro s f h
   simp only [Ib]
   split
   ·unfold Df at h
    split
    ·simp only [List.length_append,List.length_singleton];omega
    ·omega
   ·have key : ∀c y (s:SS),s.2.length≤M→s.1≤5001→(Hp (Ib cl acc m M k) cl M f (B5 f) c y s).2.length≤M∧(Hp (Ib cl acc m M k) cl M f (B5 f) c y s).1≤5001∧s.1≤(Hp (Ib cl acc m M k) cl M f (B5 f) c y s).1:=by
     intro c
     induction c with
     | zero=>intro y s h1 h2;exact ⟨h1,h2,Nat.le_refl _⟩
     | succ c ihc=>
       intro y s h1 h2
       simp only [Hp]
       split
       ·exact ⟨h1,h2,Nat.le_refl _⟩
       ·rename_i hd
        unfold Df at hd
        split
        ·simp only;omega
        ·rename_i h5
         split
         ·rename_i g _
          obtain ⟨j1,j2,j3⟩:=ih (s.1+1,s.2) g (by unfold Df;simp only;omega)
          obtain ⟨i1,i2,i3⟩:=ihc (y+1) _ j1 j2
          simp only at j3
          exact ⟨i1,i2,by omega⟩
         ·obtain ⟨i1,i2,i3⟩:=ihc (y+1) (s.1+1,s.2) h1 (by simp only;omega)
          simp only at i3
          exact ⟨i1,i2,by omega⟩
    unfold Df at h
    exact key m 0 s (by omega) (by omega)
section
variable {a b:SAlgebra} {n m:Nat}
noncomputable def Bk (a b:SAlgebra) (n m:Nat) (emb:Bool) (g:List Int):Option (List Int):=match Sg a b n m g with
 | some g'=>if emb=true∧¬Mh g' then none else some g'
 | none=>none
theorem N9 (h:Pair a b n m) {emb:Bool} {g g':List Int} (hg:okF n m g) (e:Bk a b n m emb g=some g'):okF n m g'∧ext g g'∧Be g'≤Be g∧(Be g'=0→Uz a b g')∧(emb=true→Mh g'):=by
 unfold Bk at e
 split at e
 ·rename_i g1 e1
  split at e
  ·cases e
  ·rename_i h1
   cases e
   obtain ⟨k1,k2,k3,k4⟩:=Mf h hg e1
   exact ⟨k1,k2,k3,k4,fun he=>Classical.byContradiction fun hc=>h1 ⟨he,hc⟩⟩
 ·cases e
theorem Azt {g f:List Int} (hl:g.length=f.length) (he:ext g f) (hf:Mh f):Mh g:=by
 intro i hi h0 hm
 obtain ⟨j,hj,e⟩:=I9.1 hm
 have hji:j<i:=by simp at hj;omega
 have ej:nth (g.take i) j=nth g j:=by
  rw [G2 hj,G2 (by omega),List.getElem_take]
 rw [ej] at e
 refine hf i (by omega) (by rw [he i hi h0];exact h0) (I9.2 ⟨j,by simp;omega,?_⟩)
 have ef:nth (f.take i) j=nth f j:=by
  rw [G2 (by simp;omega),G2 (by omega),List.getElem_take]
 rw [ef,he i hi h0,←e,he j (by omega) (by omega)]
theorem Aly (h:Pair a b n m) {emb:Bool} {f g:List Int} (hg:okF n m g) (hf:Uz a b f) (hi:emb=true→Mh f) (he:ext g f) : ∃g',Bk a b n m emb g=some g'∧ext g' f:=by
 obtain ⟨g',e1,h1⟩:=Ajs h hg hf he
 obtain ⟨k1,_⟩:=Mf h hg e1
 refine ⟨g',?_,h1⟩
 unfold Bk
 rw [e1]
 dsimp only
 rw [if_neg]
 rintro ⟨he2,hc⟩
 have hl:(f.length:Int)=a.Size:=hf.2.1.1
 have:=h.sa
 exact hc (Azt (by have:=k1.1;omega) h1 (hi he2))
def Dj (a b:SAlgebra) (emb onto:Bool) (M:Nat) (s:SS):Sl7Search:={ a:=a,b:=b,into:=emb,onto:=onto,most:=(M:Int),tries:=(s.1:Int),found:=s.2 }
def Ey (m:Nat) (onto:Bool) (f:List Int):Prop:=onto=true → ∀x,x<m→(x:Int)∈f
theorem Awt (h:Pair a b n m) (emb onto:Bool) {M:Nat} (hM:M≤1000) : ∀(k:Nat) (s:SS) (f:List Int),Be f<k→okF n m f→¬Df M s →
  Am k (Dj a b emb onto M s) f=some ((),Dj a b emb onto M (Ib (Bk a b n m emb) (Ey m onto) m M k s f)):=by
 obtain ⟨hn,hn8,hm,hm8⟩:=h.pos
 have hL:=Ay
 intro k
 induction k with
 | zero=>intro s f hk;omega
 | succ k ih=>
   intro s f hk hf hs
   show Bq (Am k) _ f=_
   unfold Bq
   have hfl:=hf.1
   have hs2:s.2.length<M∧s.1≤5000:=by unfold Df at hs;omega
   rw [Awj (by omega)]
   simp only [Option.bind_some,Ib]
   by_cases hq:B5 f=f.length
   ·rw [if_pos (by omega),if_pos hq]
    have e1:(if (Dj a b emb onto M s).onto=true then (Fx (Dj a b emb onto M s).b.Size f).bind fun r8=>some r8 else some true:Option Bool)=some (decide (Ey m onto f)):=by
     by_cases ho:onto=true
     ·rw [if_pos (show (Dj a b emb onto M s).onto=true from ho),show (Dj a b emb onto M s).b.Size=(m:Int) from h.sb,A0h (by omega) (by omega)]
      simp only [Option.bind_some,Ey]
      exact congrArg some (decide_eq_decide.2 ⟨fun hx _=>hx,fun hx=>hx ho⟩)
     ·rw [if_neg (show ¬(Dj a b emb onto M s).onto=true from ho)]
      have:Ey m onto f:=fun hc=>absurd hc ho
      rw [decide_eq_true this]
    rw [e1]
    simp only [Option.bind_some]
    by_cases ha:Ey m onto f
    ·rw [decide_eq_true ha,if_pos rfl,if_pos ha,Af (by show s.2.length+1≤_;omega)]
     rfl
    ·rw [decide_eq_false ha,if_neg (by simp),if_neg ha]
   ·rw [if_neg (by omega),if_neg hq]
    have hq4:B5 f<f.length:=by have:=P2 f;omega
    have hneg:=P1 f hq4
    have key : ∀c y (s:SS),y+c=m→s.2.length≤M→s.1≤5001 → ∃t,Al (At (Am k) f (B5 f:Int)) ((y:Int),Dj a b emb onto M s)=some t ∧
      (t = .inl (Dj a b emb onto M (Hp (Ib (Bk a b n m emb) (Ey m onto) m M k) (Bk a b n m emb) M f (B5 f) c y s))∨t = .inr (Dj a b emb onto M (Hp (Ib (Bk a b n m emb) (Ey m onto) m M k) (Bk a b n m emb) M f (B5 f) c y s))):=by
     intro c
     induction c with
     | zero=>
       intro y s hy h1 h2
       refine ⟨_,Ck ?_,.inr rfl⟩
       unfold At
       dsimp only
       rw [show (Dj a b emb onto M s).b.Size=(m:Int) from h.sb,if_neg (by omega)]
       rfl
     | succ c ihc=>
       intro y s hy h1 h2
       simp only [Hp]
       by_cases hd:Df M s
       ·rw [if_pos hd]
        refine ⟨_,Ck ?_,.inr rfl⟩
        unfold At
        dsimp only
        rw [show (Dj a b emb onto M s).b.Size=(m:Int) from h.sb,if_pos (by omega)]
        by_cases h3:s.2.length<M
        ·rw [if_pos (show ((Dj a b emb onto M s).found.length:Int)<(Dj a b emb onto M s).most by show (s.2.length:Int)<(M:Int);omega),if_neg (show ¬(Dj a b emb onto M s).tries≤5000 by show ¬(s.1:Int)≤5000;unfold Df at hd;omega)]
         rfl
        ·rw [if_neg (show ¬((Dj a b emb onto M s).found.length:Int)<(Dj a b emb onto M s).most by show ¬(s.2.length:Int)<(M:Int);omega)]
         rfl
       ·rw [if_neg hd]
        have hd2:s.2.length<M∧s.1≤5000:=by unfold Df at hd;omega
        have head : ∀(K:Unit ⊕ Unit→Option ((Int×Sl7Search) ⊕ (Sl7Search ⊕ Sl7Search))),((if (y:Int)<(Dj a b emb onto M s).b.Size then if ((Dj a b emb onto M s).found.length:Int)<(Dj a b emb onto M s).most then if (Dj a b emb onto M s).tries≤5000 then some (.inl ()) else some (.inr ()) else some (.inr ()) else some (.inr ()):Option (Unit ⊕ Unit))).bind K=K (.inl ()):=by
         intro K
         rw [show (Dj a b emb onto M s).b.Size=(m:Int) from h.sb,if_pos (by omega),if_pos (show ((Dj a b emb onto M s).found.length:Int)<(Dj a b emb onto M s).most by show (s.2.length:Int)<(M:Int);omega),if_pos (show (Dj a b emb onto M s).tries≤5000 by show (s.1:Int)≤5000;omega)]
         rfl
        by_cases h5:s.1+1>5000
        ·rw [if_pos h5]
         refine ⟨_,Ck ?_,.inl rfl⟩
         unfold At
         dsimp only
         rw [head]
         dsimp only
         rw [Af (by show InI ((s.1:Int)+1);unfold InI;omega),if_pos (show (Dj a b emb onto M s).tries+1>5000 by show (s.1:Int)+1>5000;omega)]
         rfl
        ·rw [if_neg h5]
         have hof:okF n m (f.set (B5 f) (y:Int)):=hf.set (by omega)
         have hop:=Nv hq4 hneg (y:=(y:Int)) (by omega)
         have cont : ∀s',(At (Am k) f (B5 f:Int)) ((y:Int),Dj a b emb onto M s)=some (.inl (((y+1:Nat):Int),Dj a b emb onto M s'))→s'.2.length≤M→s'.1≤5001 →
           ∃t,Al (At (Am k) f (B5 f:Int)) ((y:Int),Dj a b emb onto M s)=some t ∧
           (t = .inl (Dj a b emb onto M (Hp (Ib (Bk a b n m emb) (Ey m onto) m M k) (Bk a b n m emb) M f (B5 f) c (y+1) s'))∨t = .inr (Dj a b emb onto M (Hp (Ib (Bk a b n m emb) (Ey m onto) m M k) (Bk a b n m emb) M f (B5 f) c (y+1) s'))):=by
          intro s' e k1 k2
          rw [Fj e]
          exact ihc (y+1) s' (by omega) k1 k2
         have step : ∀X,(At (Am k) f (B5 f:Int)) ((y:Int),Dj a b emb onto M s)=X→X=(let s1:=Dj a b emb onto M (s.1+1,s.2);(Do a b (f.set (B5 f) (y:Int))).bind fun r19=>if r19.2=true then (if emb=true then (E3 r19.1).bind fun r22=>if r22=true then (Am k s1 r19.1).bind fun (r24,u25)=>ask (InI ((y:Int)+1))<|some (.inl ((y:Int)+1,u25)) else ask (InI ((y:Int)+1))<|some (.inl ((y:Int)+1,s1))
            else (Am k s1 r19.1).bind fun (r28,u29)=>ask (InI ((y:Int)+1))<|some (.inl ((y:Int)+1,u29))) else ask (InI ((y:Int)+1))<|some (.inl ((y:Int)+1,s1))):=by
          rintro X rfl
          unfold At
          dsimp only
          rw [head]
          dsimp only
          rw [Af (by show InI ((s.1:Int)+1);unfold InI;omega),if_neg (show ¬(Dj a b emb onto M s).tries+1>5000 by show ¬(s.1:Int)+1>5000;omega),Ag4 (by omega)]
          simp only [Option.bind_some]
          rw [Af (by omega),Int.toNat_natCast]
          rfl
         have hI:InI ((y:Int)+1):=by unfold InI;omega
         have no:Bk a b n m emb (f.set (B5 f) (y:Int))=none→(At (Am k) f (B5 f:Int)) ((y:Int),Dj a b emb onto M s)=some (.inl (((y+1:Nat):Int),Dj a b emb onto M (s.1+1,s.2))):=by
          intro e
          rw [step _ rfl,Aaz h hof]
          unfold Bk at e
          cases e1:Sg a b n m (f.set (B5 f) (y:Int)) with
          | none=>
            simp only [Option.bind_some]
            rw [if_neg (by simp),Af hI];rfl
          | some g=>
            rw [e1] at e
            dsimp only at e
            have hE:emb=true∧¬Mh g:=by
             by_cases hx:emb=true∧¬Mh g
             ·exact hx
             ·rw [if_neg hx] at e;cases e
            simp only [Option.bind_some]
            have hg:=(Mf h hof e1).1.1
            rw [if_pos trivial,if_pos hE.1,Agi (by omega),decide_eq_false hE.2]
            simp only [Option.bind_some]
            rw [if_neg (by simp),Af hI];rfl
         have yes : ∀g,Bk a b n m emb (f.set (B5 f) (y:Int))=some g→(At (Am k) f (B5 f:Int)) ((y:Int),Dj a b emb onto M s)=some (.inl (((y+1:Nat):Int),Dj a b emb onto M (Ib (Bk a b n m emb) (Ey m onto) m M k (s.1+1,s.2) g))):=by
          intro g e
          obtain ⟨g1,g2,g3,g4,g5⟩:=N9 h hof e
          rw [step _ rfl,Aaz h hof]
          unfold Bk at e
          cases e1:Sg a b n m (f.set (B5 f) (y:Int)) with
          | none=>rw [e1] at e;cases e
          | some g'=>
            rw [e1] at e
            dsimp only at e
            split at e
            ·cases e
            ·cases e
             have go:=ih (s.1+1,s.2) g (by omega) g1 (by unfold Df;simp only;omega)
             simp only [Option.bind_some]
             rw [if_pos trivial]
             by_cases hE:emb=true
             ·rw [if_pos hE,Agi (by have:=g1.1;omega),decide_eq_true (g5 hE)]
              simp only [Option.bind_some]
              rw [if_pos trivial,go]
              simp only [Option.bind_some]
              rw [Af hI];rfl
             ·rw [if_neg hE,go]
              simp only [Option.bind_some]
              rw [Af hI];rfl
         cases e:Bk a b n m emb (f.set (B5 f) (y:Int)) with
         | none=>exact cont _ (no e) h1 (by simp only;omega)
         | some g=>
           obtain ⟨j1,j2,_⟩:=A2v (cl:=Bk a b n m emb) (acc:=Ey m onto) (m:=m) (M:=M) k (s.1+1,s.2) g (by unfold Df;simp only;omega)
           exact cont _ (yes g e) j1 j2
    obtain ⟨t,e2,ht⟩:=key m 0 s (by omega) (by omega) (by omega)
    have e2':Al (At (Am k) f (B5 f:Int)) (0,Dj a b emb onto M s)=some t:=e2
    rw [e2']
    simp only [Option.bind_some]
    rcases ht with rfl | rfl<;>rfl
end
end Go.Proofs.Ytmkgjnphianalaa.Ax
namespace Go.Proofs.Ytmkgjnphianalaa.Ax
open Go Classical
section
variable {a b:SAlgebra} {n m:Nat}
theorem Ax0 (h:Pair a b n m) {s:ShomSearch} (sa:s.a=a) (sb:s.b=b) {g:List Int} (hg:okF n m g) :
  (∃g',Bk a b n m s.embed g=some g'∧Bv s g=some (true,g'))∨(Bk a b n m s.embed g=none ∧ ∃e,Bv s g=some (false,e)):=by
 obtain ⟨hn,hn8,hm,hm8⟩:=h.pos
 have hL:=Ay
 unfold Bv Bk
 rw [sa,sb]
 rcases Ak9 h hg with ⟨f,e1,e2⟩ | ⟨e1,x,e2⟩
 ·obtain ⟨k1,_⟩:=Mf h hg e1
  have hfl:=k1.1
  rw [e1,e2]
  simp only [Option.bind_some]
  rw [if_pos trivial]
  by_cases hE:s.embed=true
  ·rw [if_pos hE,Af (by rw [h.sb];omega),h.sb,Int.toNat_natCast]
   have this:=Dn (body:=B6 f) (fun i=>((i:Int),Na m fun z=>decide ((z:Int)∈f.take i))) f.length (fun i=>0≤nth f i∧nth f i∈f.take i) () () (fun i hi hb=>by
    have hv:=k1.2 _ (Az hi)
    have hlen:=J2 m fun z=>decide ((z:Int)∈f.take i)
    unfold B6
    dsimp only
    rw [if_pos (by omega),Af (by omega),Int.toNat_natCast]
    by_cases h0:nth f i≥0
    ·have hc:nth f i=(((nth f i).toNat:Nat):Int):=by omega
     rw [if_pos h0,Af (by omega),Lg (by omega),if_neg (by rw [←hc];simpa using fun hc=>hb ⟨h0,hc⟩),if_pos h0,Af (by omega),Af (by unfold InI;omega),Adu (by omega)]
     refine congrArg (fun x=>some (Sum.inl (_,x))) (H6 fun z _=> ?_)
     rw [Hf hi]
     by_cases hz:z=(nth f i).toNat
     ·rw [if_pos hz]
      refine (decide_eq_true ?_).symm
      rw [List.mem_append,List.mem_singleton];right;omega
     ·rw [if_neg hz,decide_eq_decide,List.mem_append,List.mem_singleton]
      exact ⟨.inl,fun h=>h.resolve_right (by omega)⟩
    ·rw [if_neg h0,if_neg h0,Af (by unfold InI;omega)]
     refine congrArg (fun x=>some (Sum.inl (_,x))) (H6 fun z _=> ?_)
     rw [Hf hi,decide_eq_decide,List.mem_append,List.mem_singleton]
     exact ⟨.inl,fun h=>h.resolve_right (by omega)⟩) (fun i hi hb=>by
    have hv:=k1.2 _ (Az hi)
    have hlen:=J2 m fun z=>decide ((z:Int)∈f.take i)
    have hc:nth f i=(((nth f i).toNat:Nat):Int):=by have:=hb.1;omega
    unfold B6
    dsimp only
    rw [if_pos (by omega),Af (by omega),Int.toNat_natCast,if_pos hb.1,Af (by have:=hb.1;omega),Lg (by omega),if_pos (by rw [←hc];simpa using hb.2)]) (by
    unfold B6
    dsimp only
    rw [if_neg (by omega)]) 0 (by omega)
   have e0:(Na m fun z=>decide ((z:Int)∈f.take 0))=List.replicate m false:=by
    rw [Xe];exact H6 fun z _=>by simp
   simp only [e0] at this
   have this':Al (B6 f) (0,List.replicate m false)=_:=this
   rw [this']
   simp only [Option.bind_some]
   by_cases hI:Mh f
   ·left
    refine ⟨f,by rw [if_neg (fun hc=>hc.2 hI)],?_⟩
    rw [if_neg]
    rintro ⟨i,_,hi,h0,hm⟩
    exact hI i hi h0 hm
   ·right
    refine ⟨by rw [if_pos ⟨hE,hI⟩],f,?_⟩
    rw [if_pos]
    refine Classical.byContradiction fun hc=>hI fun i hi h0 hm=>hc ⟨i,by omega,hi,h0,hm⟩
  ·rw [if_neg hE]
   exact .inl ⟨f,by rw [if_neg (fun hc=>hE hc.1)],rfl⟩
 ·rw [e1,e2]
  simp only [Option.bind_some]
  rw [if_neg (by simp)]
  exact .inr ⟨trivial,x,rfl⟩
abbrev FD:=List (List Int) ⊕ ((Unit ⊕ SAlgebra)×Option (List Int))
def Mi (a b:SAlgebra) (emb:Bool) (rp:List (List Int)→FD) (s:SS):ShomSearch:={ a:=a,b:=b,embed:=emb,tries:=(s.1:Int),found:=rp s.2 }
def Azw (n m M:Nat) (acc:List Int→Prop) (rp:List (List Int)→FD):Prop := ∀f fs,okF n m f→Be f=0→fs.length<M →
 Dt f (rp fs)=some (decide (¬M≤(if acc f then fs++[f] else fs).length),rp (if acc f then fs++[f] else fs))
noncomputable def A39 (a b:SAlgebra) (emb:Bool) (rp:List (List Int)→FD) (M:Nat) (x:SS):Option (Bool×ShomSearch):=some (decide (¬Df M x),Mi a b emb rp x)
theorem Az8 {M:Nat} {x:SS} (h:Df M x):decide (¬Df M x)=false:=decide_eq_false (fun hc=>hc h)
theorem Awg {M:Nat} {x:SS} (h:¬Df M x):decide (¬Df M x)=true:=decide_eq_true h
noncomputable def A6n (a b:SAlgebra) (emb:Bool) (rp:List (List Int)→FD) (M:Nat) (x:SS):ShomSearch ⊕ ShomSearch:=if Df M x then .inl (Mi a b emb rp x) else .inr (Mi a b emb rp x)
theorem Alv {emb:Bool} {rp:List (List Int)→FD} {M:Nat} {x:SS} (h:Df M x):A6n a b emb rp M x = .inl (Mi a b emb rp x):=if_pos h
theorem Ayj {emb:Bool} {rp:List (List Int)→FD} {M:Nat} {x:SS} (h:¬Df M x):A6n a b emb rp M x = .inr (Mi a b emb rp x):=if_neg h
theorem Awi (h:Pair a b n m) (emb:Bool) {M:Nat} {acc:List Int→Prop} {rp:List (List Int)→FD} (hfc:Azw n m M acc rp) : ∀(k:Nat) (s:SS) (f:List Int),Be f<k→okF n m f→¬Df M s →
  A6 k (Mi a b emb rp s) f=A39 a b emb rp M (Ib (Bk a b n m emb) acc m M k s f):=by
 obtain ⟨hn,hn8,hm,hm8⟩:=h.pos
 have hL:=Ay
 intro k
 induction k with
 | zero=>intro s f hk;omega
 | succ k ih=>
   intro s f hk hf hs
   show Bz (A6 k) _ f=_
   unfold Bz
   have hfl:=hf.1
   have hs2:s.2.length<M∧s.1≤5000:=by unfold Df at hs;omega
   rw [Awd (by omega)]
   simp only [Option.bind_some,Ib]
   by_cases hq:B5 f=f.length
   ·rw [if_pos (by omega),if_pos hq]
    have e1:=hfc f s.2 hf (Ac1.1 hq) hs2.1
    show (Dt f (rp s.2)).bind _=_
    rw [e1]
    simp only [Option.bind_some]
    by_cases ha:acc f
    ·rw [if_pos ha,if_pos ha]
     refine congrArg some (Prod.ext ?_ rfl)
     rw [decide_eq_decide]
     unfold Df
     simp only
     omega
    ·rw [if_neg ha,if_neg ha]
     refine congrArg some (Prod.ext ?_ rfl)
     rw [decide_eq_decide]
     unfold Df
     omega
   ·rw [if_neg (by omega),if_neg hq]
    have hq4:B5 f<f.length:=by have:=P2 f;omega
    have hneg:=P1 f hq4
    have key : ∀c y (s:SS),y+c=m→¬Df M s→Al (Bg (A6 k) f (B5 f:Int)) ((y:Int),Mi a b emb rp s) =
      some (A6n a b emb rp M (Hp (Ib (Bk a b n m emb) acc m M k) (Bk a b n m emb) M f (B5 f) c y s)):=by
     intro c
     induction c with
     | zero=>
       intro y s hy hd
       refine Ck ?_
       unfold Bg
       dsimp only
       rw [show (Mi a b emb rp s).b.Size=(m:Int) from h.sb,if_neg (by omega)]
       simp only [Hp]
       rw [Ayj hd]
     | succ c ihc=>
       intro y s hy hd
       have hd2:s.2.length<M∧s.1≤5000:=by unfold Df at hd;omega
       simp only [Hp]
       rw [if_neg hd]
       by_cases h5:s.1+1>5000
       ·rw [if_pos h5]
        refine Ck ?_
        unfold Bg
        dsimp only
        rw [show (Mi a b emb rp s).b.Size=(m:Int) from h.sb,if_pos (by omega),Af (by show InI ((s.1:Int)+1);unfold InI;omega),if_pos (show (Mi a b emb rp s).tries+1>5000 by show (s.1:Int)+1>5000;omega),Alv (by unfold Df;simp only;omega)]
        rfl
       ·rw [if_neg h5]
        have hof:okF n m (f.set (B5 f) (y:Int)):=hf.set (by omega)
        have hop:=Nv hq4 hneg (y:=(y:Int)) (by omega)
        have hI:InI ((y:Int)+1):=by unfold InI;omega
        have step : ∀X,(Bg (A6 k) f (B5 f:Int)) ((y:Int),Mi a b emb rp s)=X→X=(let s1:=Mi a b emb rp (s.1+1,s.2);(Bv s1 (f.set (B5 f) (y:Int))).bind fun (r14,u15)=>if r14=true then (A6 k s1 u15).bind fun (r17,u18)=>if r17=true then ask (InI ((y:Int)+1))<|some (.inl ((y:Int)+1,u18)) else some (.inr (.inl u18))
           else ask (InI ((y:Int)+1))<|some (.inl ((y:Int)+1,s1))):=by
         rintro X rfl
         unfold Bg
         dsimp only
         rw [show (Mi a b emb rp s).b.Size=(m:Int) from h.sb,if_pos (by omega),Af (by show InI ((s.1:Int)+1);unfold InI;omega),if_neg (show ¬(Mi a b emb rp s).tries+1>5000 by show ¬(s.1:Int)+1>5000;omega),Zd (by omega)]
         simp only [Option.bind_some]
         rw [Af (by omega),Int.toNat_natCast]
         rfl
        rcases Ax0 h (s:=Mi a b emb rp (s.1+1,s.2)) rfl rfl hof with ⟨g,e1,e2⟩ | ⟨e1,x,e2⟩
        ·have e1':Bk a b n m emb (f.set (B5 f) (y:Int))=some g:=e1
         obtain ⟨g1,g2,g3,g4,g5⟩:=N9 h hof e1'
         have go:=ih (s.1+1,s.2) g (by omega) g1 (by unfold Df;simp only;omega)
         have hst:=step _ rfl
         dsimp only at hst
         rw [e2] at hst
         simp only [Option.bind_some] at hst
         rw [if_pos trivial,go] at hst
         simp only [A39,Option.bind_some] at hst
         rw [e1']
         dsimp only
         by_cases hd3:Df M (Ib (Bk a b n m emb) acc m M k (s.1+1,s.2) g)
         ·rw [decide_eq_false (by simpa using hd3),if_neg (by simp)] at hst
          rw [Al8 hd3,Alv hd3]
          exact Ck hst
         ·rw [decide_eq_true hd3,if_pos rfl,Af hI] at hst
          rw [Fj hst]
          exact ihc (y+1) _ (by omega) hd3
        ·have e1':Bk a b n m emb (f.set (B5 f) (y:Int))=none:=e1
         have hst:=step _ rfl
         dsimp only at hst
         rw [e2] at hst
         simp only [Option.bind_some] at hst
         rw [if_neg (by simp),Af hI] at hst
         rw [e1']
         dsimp only
         rw [Fj hst]
         exact ihc (y+1) _ (by omega) (by unfold Df;simp only;omega)
    have e2:=key m 0 s (by omega) hs
    have e2':Al (Bg (A6 k) f (B5 f:Int)) (0,Mi a b emb rp s)=_:=e2
    rw [e2']
    simp only [Option.bind_some]
    by_cases hd:Df M (Hp (Ib (Bk a b n m emb) acc m M k) (Bk a b n m emb) M f (B5 f) m 0 s)
    ·rw [Alv hd]
     dsimp only
     unfold A39;rw [Az8 hd]
    ·rw [Ayj hd]
     dsimp only
     unfold A39;rw [Awg hd]
end
theorem Ata {s1 s2:ShomSearch→List Int→Option (Bool×ShomSearch)} (h : ∀s f,LeO (s1 s f) (s2 s f)) (s:ShomSearch) (f:List Int):LeO (Bz s1 s f) (Bz s2 s f):=by
 unfold Bz
 refine LeO.bind (LeO.refl _) fun q=>LeO.ite (LeO.refl _) (LeO.bind (LeO.loop (fun s=> ?_) _) fun _=>LeO.refl _)
 obtain ⟨x,y⟩:=s
 unfold Bg
 dsimp only
 exact LeO.ite (LeO.ask (LeO.ite (LeO.refl _) (LeO.bind (LeO.refl _) fun r=>LeO.ask (LeO.bind (LeO.refl _) fun r2=>LeO.ite (LeO.bind (h _ _) fun _=>LeO.refl _) (LeO.refl _))))) (LeO.refl _)
theorem Ay1 (s:ShomSearch) (f:List Int):upO fun n=>A6 n s f:=A2r (F:=A6) (fun _ _=>rfl) (fun _ h a b=>Ata h a b) s f
section
variable {a b:SAlgebra} {n m:Nat}
noncomputable def Em (a b:SAlgebra) (n m:Nat) (emb:Bool) (acc:List Int→Prop) (M:Nat):SS:=match Bk a b n m emb (List.replicate n (-1)) with
 | some g=>Ib (Bk a b n m emb) acc m M (Be g+1) (0,[]) g
 | none=>(0,[])
theorem R5 {emb:Bool} {acc:List Int→Prop} {M:Nat} {g:List Int} (e:Bk a b n m emb (List.replicate n (-1))=some g):Em a b n m emb acc M=Ib (Bk a b n m emb) acc m M (Be g+1) (0,[]) g:=by
 unfold Em;rw [e]
theorem Xa {emb:Bool} {acc:List Int→Prop} {M:Nat} (e:Bk a b n m emb (List.replicate n (-1))=none):Em a b n m emb acc M=(0,[]):=by
 unfold Em;rw [e]
noncomputable def A0m (s:SS):Option (List (List Int)×Bool):=some (s.2,decide (s.1≤5000))
theorem Vo (n m:Nat):okF n m (List.replicate n (-1)):=⟨List.length_replicate,fun x hx=>by rw [(List.mem_replicate.1 hx).2];omega⟩
theorem Axq (h:Pair a b n m) (emb onto:Bool) {M:Nat} (hM0:0<M) (hM:M≤1000):Cq a b emb onto (M:Int)=A0m (Em a b n m emb (Ey m onto) M):=by
 obtain ⟨hn,hn8,hm,hm8⟩:=h.pos
 have hL:=Ay
 unfold Cq
 have e:=C4 (body:=Db a b emb onto (M:Int)) (fun i=>((i:Int),List.replicate i (-1))) n (List.replicate n (-1)) (fun i hi=>by
  unfold Db
  dsimp only
  rw [h.sa,if_pos (by omega),Af (by simp;omega),Af (by unfold InI;omega),←List.replicate_succ']
  rfl) (by
  unfold Db
  dsimp only
  rw [h.sa,if_neg (by omega)])
 have e':Al (Db a b emb onto (M:Int)) (0,Ao Int)=some (List.replicate n (-1)):=e
 rw [e']
 simp only [Option.bind_some]
 have hok:=Vo n m
 rw [Aaz h hok]
 simp only [Option.bind_some]
 have hd0:¬Df M ((0,[]):SS):=by unfold Df;simp only [List.length_nil];omega
 have fin : ∀s:SS,some ((Dj a b emb onto M s).found,decide ((Dj a b emb onto M s).tries≤5000))=A0m s:=fun s=>by
  refine congrArg some (Prod.ext rfl ?_)
  rw [decide_eq_decide]
  show (s.1:Int)≤5000↔_
  omega
 have go : ∀g,Sg a b n m (List.replicate n (-1))=some g→(Agn fun k=>Am k (Dj a b emb onto M (0,[])) g)=some ((),Dj a b emb onto M (Ib (Bk a b n m emb) (Ey m onto) m M (Be g+1) (0,[]) g)):=by
  intro g e1
  exact Aro (Axw _ _) (Awt h emb onto hM (Be g+1) (0,[]) g (Nat.lt_succ_self _) (Mf h hok e1).1 hd0)
 have e0:({ a:=a,b:=b,into:=emb,onto:=onto,most:=(M:Int),tries:=0,found:=Ao (List Int) }:Sl7Search)=Dj a b emb onto M (0,[]):=rfl
 rw [e0]
 cases e1:Sg a b n m (List.replicate n (-1)) with
 | none=>
   have eE:Bk a b n m emb (List.replicate n (-1))=none:=by unfold Bk;rw [e1]
   rw [Xa eE]
   dsimp only
   rw [if_neg (by simp)]
   exact fin (0,[])
 | some g=>
   have hgo:=go g e1
   have hgl:=(Mf h hok e1).1.1
   dsimp only
   rw [if_pos rfl]
   by_cases hE:emb=true
   ·rw [if_pos hE,Agi (by omega)]
    simp only [Option.bind_some]
    by_cases hI:Mh g
    ·have eE:Bk a b n m emb (List.replicate n (-1))=some g:=by unfold Bk;rw [e1];exact if_neg (fun hc=>hc.2 hI)
     rw [R5 eE,decide_eq_true hI,if_pos rfl,hgo]
     exact fin _
    ·have eE:Bk a b n m emb (List.replicate n (-1))=none:=by unfold Bk;rw [e1];exact if_pos ⟨hE,hI⟩
     rw [Xa eE,decide_eq_false hI,if_neg (by simp)]
     exact fin (0,[])
   ·have eE:Bk a b n m emb (List.replicate n (-1))=some g:=by unfold Bk;rw [e1];exact if_neg (fun hc=>hE hc.1)
    rw [R5 eE,if_neg hE,hgo]
    exact fin _
theorem Ahb {body:Int×List Int→Option ((Int×List Int) ⊕ List Int)} (_hn:n≤8) (hb : ∀(i:Nat) g,i<n→g.length=n→body ((i:Int),g)=some (.inl (((i+1:Nat):Int),g.set i (-1)))) (he : ∀g,body ((n:Int),g)=some (.inr g)):Al body (0,List.replicate n 0)=some (List.replicate n (-1)):=by
 have:=C4 (body:=body) (fun i=>((i:Int),List.replicate i (-1)++List.replicate (n-i) 0)) n (List.replicate n (-1)) (fun i hi=>by
  rw [hb i _ hi (by simp;omega),A38 _ _ _ hi (by simp),←List.replicate_succ']) (by
  rw [he];simp)
 simpa using this
noncomputable def Azu (rp:List (List Int)→FD) (s:SS):Option (Bool×FD):=some (decide (s.1≤5000),rp s.2)
theorem Apd (h:Pair a b n m) (emb:Bool) {M:Nat} (hM:0<M) {acc:List Int→Prop} {rp:List (List Int)→FD} (hfc:Azw n m M acc rp) :
  Di a b emb (rp [])=Azu rp (Em a b n m emb acc M):=by
 obtain ⟨hn,hn8,hm,hm8⟩:=h.pos
 have hL:=Ay
 have hok:=Vo n m
 have hd0:¬Df M ((0,[]):SS):=by unfold Df;simp only [List.length_nil];omega
 have main:((Bv (Mi a b emb rp (0,[])) (List.replicate n (-1))).bind fun (r6,u7)=>if r6=true then (Agn fun k=>A6 k (Mi a b emb rp (0,[])) u7).bind fun (_,u10)=>some (decide (u10.tries≤5000),u10.found) else some (decide ((0:Int)≤5000),rp []))=Azu rp (Em a b n m emb acc M):=by
  rcases Ax0 h (s:=Mi a b emb rp (0,[])) rfl rfl hok with ⟨g,e1,e2⟩ | ⟨e1,x,e2⟩
  ·have e1':Bk a b n m emb (List.replicate n (-1))=some g:=e1
   rw [e2,R5 e1']
   simp only [Option.bind_some]
   rw [if_pos trivial,Aro (Ay1 _ _) (Awi h emb hfc (Be g+1) (0,[]) g (Nat.lt_succ_self _) (N9 h hok e1').1 hd0)]
   simp only [Option.bind_some]
   refine congrArg some (Prod.ext ?_ rfl)
   rw [decide_eq_decide]
   show ((Ib (Bk a b n m emb) acc m M (Be g+1) (0,[]) g).1:Int)≤5000↔_
   omega
  ·have e1':Bk a b n m emb (List.replicate n (-1))=none:=e1
   rw [e2,Xa e1']
   simp only [Option.bind_some]
   rw [if_neg (by simp)]
   rfl
 have eS : ∀x,rp []=x→Mi a b emb rp (0,[])={ a:=a,b:=b,embed:=emb,tries:=0,found:=x }:=by rintro x rfl;rfl
 unfold Di
 cases hr:rp [] with
 | inl fs=>
   dsimp only
   rw [h.sa,Af (by omega),Int.toNat_natCast,Ahb hn8 (fun i g hi hg=>by
    unfold E8
    dsimp only
    rw [h.sa,Int.toNat_natCast,if_pos (by omega),Af (by omega),Af (by unfold InI;omega),Int.toNat_natCast];rfl) (fun g=>by
    unfold E8
    dsimp only
    rw [h.sa,Int.toNat_natCast,if_neg (by omega)])]
   simp only [Option.bind_some]
   rw [eS _ hr,hr] at main
   exact main
 | inr q=>
   dsimp only
   rw [h.sa,Af (by omega),Int.toNat_natCast,Ahb hn8 (fun i g hi hg=>by
    unfold Ec
    dsimp only
    rw [h.sa,Int.toNat_natCast,if_pos (by omega),Af (by omega),Af (by unfold InI;omega),Int.toNat_natCast];rfl) (fun g=>by
    unfold Ec
    dsimp only
    rw [h.sa,Int.toNat_natCast,if_neg (by omega)])]
   simp only [Option.bind_some]
   rw [eS _ hr,hr] at main
   exact main
end
end Go.Proofs.Ytmkgjnphianalaa.Ax
namespace Go.Proofs.Ytmkgjnphianalaa.Ax
open Go Classical
theorem A5f {f:List Int} {q:Nat} (hq:nth f q<0) (y:Int):ext f (f.set q y):=fun x hx h0=>by
 rw [Ld _ _ _ _ hx,if_neg]
 intro e;subst e;omega
section
variable {a b:SAlgebra} {n m:Nat}
structure FoundZ (a b:SAlgebra) (n m:Nat) (emb:Bool) (acc:List Int→Prop) (g:List Int):Prop where
 ok:okF n m g
 all:Be g=0
 hom:Uz a b g
 acc:acc g
 into:emb=true→Mh g
theorem Atn (h:Pair a b n m) {emb:Bool} {acc:List Int→Prop} {M:Nat} {f:List Int} {q:Nat} (hf:okF n m f) (hq:q<f.length) (hneg:nth f q<0) {rec_:SS→List Int→SS}
  (hr : ∀s g,okF n m g→Be g<Be f→(Be g=0→Uz a b g)→(emb=true→Mh g) → ∃l,(rec_ s g).2=s.2++l∧l.Nodup ∧ ∀z∈l,FoundZ a b n m emb acc z∧ext g z) :
  ∀c y s,y+c≤m → ∃l,(Hp rec_ (Bk a b n m emb) M f q c y s).2=s.2++l∧l.Nodup ∧ ∀z∈l,FoundZ a b n m emb acc z∧ext f z∧(y:Int)≤nth z q:=by
 intro c
 induction c with
 | zero=>intro y s _;exact ⟨[],by simp [Hp],List.nodup_nil,fun z hz=>by cases hz⟩
 | succ c ih=>
   intro y s hy
   simp only [Hp]
   split
   ·exact ⟨[],by simp,List.nodup_nil,fun z hz=>by cases hz⟩
   ·split
    ·exact ⟨[],by simp,List.nodup_nil,fun z hz=>by cases hz⟩
    ·have hof:okF n m (f.set q (y:Int)):=hf.set (by omega)
     have hop:=Nv hq hneg (y:=(y:Int)) (by omega)
     split
     ·rename_i g e
      obtain ⟨g1,g2,g3,g4,g5⟩:=N9 h hof e
      obtain ⟨l1,e1,n1,p1⟩:=hr (s.1+1,s.2) g g1 (by omega) g4 g5
      obtain ⟨l2,e2,n2,p2⟩:=ih (y+1) (rec_ (s.1+1,s.2) g) (by omega)
      have hat : ∀z∈l1,nth z q=(y:Int):=by
       intro z hz
       have h1:=(p1 z hz).2
       have h2:nth (f.set q (y:Int)) q=(y:Int):=by rw [Ld _ _ _ _ hq,if_pos rfl]
       have h3:=g2 q (by simpa using hq) (by omega)
       rw [h1 q (by have:=g1.1;have:=hf.1;omega) (by omega),h3,h2]
      refine ⟨l1++l2,by rw [e2,e1,List.append_assoc],List.nodup_append.2 ⟨n1,n2,?_⟩,fun z hz=> ?_⟩
      ·rintro z hz w hw rfl
       have h1:=hat z hz
       have h2:=(p2 z hw).2.2
       omega
      ·rcases List.mem_append.1 hz with hz | hz
       ·refine ⟨(p1 z hz).1,?_,by rw [hat z hz];exact Int.le_refl _⟩
        have hl:(f.set q (y:Int)).length=g.length:=by rw [hof.1,g1.1]
        exact U5 (by simp) (A5f hneg _) (U5 hl g2 (p1 z hz).2)
       ·obtain ⟨k1,k2,k3⟩:=p2 z hz
        exact ⟨k1,k2,by omega⟩
     ·obtain ⟨l2,e2,n2,p2⟩:=ih (y+1) (s.1+1,s.2) (by omega)
      refine ⟨l2,e2,n2,fun z hz=> ?_⟩
      obtain ⟨k1,k2,k3⟩:=p2 z hz
      exact ⟨k1,k2,by omega⟩
theorem Av1 (h:Pair a b n m) (emb:Bool) (acc:List Int→Prop) (M:Nat) : ∀k s f,Be f<k→okF n m f→(Be f=0→Uz a b f)→(emb=true→Mh f) →
  ∃l,(Ib (Bk a b n m emb) acc m M k s f).2=s.2++l∧l.Nodup ∧ ∀z∈l,FoundZ a b n m emb acc z∧ext f z:=by
 intro k
 induction k with
 | zero=>intro s f hk;omega
 | succ k ih=>
   intro s f hk hf h0 hi
   simp only [Ib]
   by_cases hq:B5 f=f.length
   ·rw [if_pos hq]
    have hop:=Ac1.1 hq
    by_cases ha:acc f
    ·rw [if_pos ha]
     refine ⟨[f],rfl,by simp,fun z hz=> ?_⟩
     rw [List.mem_singleton.1 hz]
     exact ⟨⟨hf,hop,h0 hop,ha,hi⟩,Aal f⟩
    ·rw [if_neg ha]
     exact ⟨[],by simp,List.nodup_nil,fun z hz=>by cases hz⟩
   ·rw [if_neg hq]
    have hq4:B5 f<f.length:=by have:=P2 f;omega
    obtain ⟨l,e,hn,p⟩:=Atn h (M:=M) hf hq4 (P1 f hq4) (rec_:=Ib (Bk a b n m emb) acc m M k) (fun s g hg hl hg0 hgi=>ih s g (by omega) hg hg0 hgi) m 0 s (by omega)
    exact ⟨l,e,hn,fun z hz=>⟨(p z hz).1,(p z hz).2.1⟩⟩
theorem Apl {rec_:SS→List Int→SS} (hr : ∀s g,∃l,(rec_ s g).2=s.2++l) {cl:List Int→Option (List Int)} {M:Nat} {f:List Int} {q:Nat} : ∀c y s,∃l,(Hp rec_ cl M f q c y s).2=s.2++l:=by
 intro c
 induction c with
 | zero=>intro y s;exact ⟨[],by simp [Hp]⟩
 | succ c ih=>
   intro y s
   simp only [Hp]
   split
   ·exact ⟨[],by simp⟩
   ·split
    ·exact ⟨[],by simp⟩
    ·split
     ·rename_i g _
      obtain ⟨l1,e1⟩:=hr (s.1+1,s.2) g
      obtain ⟨l2,e2⟩:=ih (y+1) (rec_ (s.1+1,s.2) g)
      exact ⟨l1++l2,by rw [e2,e1,List.append_assoc]⟩
     ·obtain ⟨l2,e2⟩:=ih (y+1) (s.1+1,s.2)
      exact ⟨l2,e2⟩
theorem A1d {cl:List Int→Option (List Int)} {acc:List Int→Prop} {M:Nat} : ∀k s f,∃l,(Ib cl acc m M k s f).2=s.2++l:=by
 intro k
 induction k with
 | zero=>intro s f;exact ⟨[],by simp [Ib]⟩
 | succ k ih=>
   intro s f
   simp only [Ib]
   split
   ·split
    ·exact ⟨[f],rfl⟩
    ·exact ⟨[],by simp⟩
   ·exact Apl (fun s g=>ih s g) m 0 s
theorem A3e (h:Pair a b n m) (emb:Bool) (acc:List Int→Prop) (M:Nat) {z:List Int} (hz:Uz a b z) (ha:acc z) (hi:emb=true→Mh z) : ∀k s f,Be f<k→okF n m f→ext f z →
  ¬Df M (Ib (Bk a b n m emb) acc m M k s f)→z∈(Ib (Bk a b n m emb) acc m M k s f).2:=by
 have hzl:z.length=n:=by have:=hz.2.1.1;have:=h.sa;omega
 have hzm:Ce z m:=by have:=hz.2.1.2;rw [h.sb] at this;exact this
 intro k
 induction k with
 | zero=>intro s f hk;omega
 | succ k ih=>
   intro s f hk hf he hd
   simp only [Ib] at hd ⊢
   by_cases hq:B5 f=f.length
   ·rw [if_pos hq]
    have hop:=Ac1.1 hq
    have hfz:f=z:=by
     refine T8 (by rw [hf.1,hzl]) fun x hx=> ?_
     exact (he x hx (Ac0.1 hop _ (Az hx))).symm
    rw [hfz,if_pos ha]
    simp
   ·rw [if_neg hq] at hd ⊢
    have hq4:B5 f<f.length:=by have:=P2 f;omega
    have hneg:=P1 f hq4
    have hfl:=hf.1
    have hzv:=hzm _ (Az (show B5 f<z.length by omega))
    have key : ∀c y s,y+c=m→(y:Int)≤nth z (B5 f)→¬Df M (Hp (Ib (Bk a b n m emb) acc m M k) (Bk a b n m emb) M f (B5 f) c y s)→z∈(Hp (Ib (Bk a b n m emb) acc m M k) (Bk a b n m emb) M f (B5 f) c y s).2:=by
     intro c
     induction c with
     | zero=>intro y s hy hv _;omega
     | succ c ihc=>
       intro y s hy hv hd
       simp only [Hp] at hd ⊢
       by_cases h1:Df M s
       ·rw [if_pos h1] at hd;exact absurd h1 hd
       ·rw [if_neg h1] at hd ⊢
        by_cases h5:s.1+1>5000
        ·rw [if_pos h5] at hd
         exact absurd (by unfold Df;simp only;omega) hd
        ·rw [if_neg h5] at hd ⊢
         have hof:okF n m (f.set (B5 f) (y:Int)):=hf.set (by omega)
         have hop:=Nv hq4 hneg (y:=(y:Int)) (by omega)
         by_cases hyz:nth z (B5 f)=(y:Int)
         ·have hez:ext (f.set (B5 f) (y:Int)) z:=fun x hx hx0=>by
           simp only [List.length_set] at hx
           rw [Ld _ _ _ _ hx] at hx0 ⊢
           split at hx0
           ·rename_i e;rw [if_pos e,←e];exact hyz
           ·rename_i e;rw [if_neg e];exact he x hx hx0
          obtain ⟨g,e,hg⟩:=Aly h hof hz hi hez
          obtain ⟨g1,g2,g3,_⟩:=N9 h hof e
          rw [e] at hd ⊢
          dsimp only at hd ⊢
          have hd2:¬Df M (Ib (Bk a b n m emb) acc m M k (s.1+1,s.2) g):=fun hc=>by
           rw [Al8 hc] at hd;exact hd hc
          have hin:=ih (s.1+1,s.2) g (by omega) g1 hg hd2
          obtain ⟨l,el⟩:=Apl (rec_:=Ib (Bk a b n m emb) acc m M k) (fun s g=>A1d k s g) (cl:=Bk a b n m emb) (M:=M) (f:=f) (q:=B5 f) c (y+1) (Ib (Bk a b n m emb) acc m M k (s.1+1,s.2) g)
          rw [el]
          exact List.mem_append_left _ hin
         ·split at hd
          ·exact ihc (y+1) _ (by omega) (by omega) hd
          ·exact ihc (y+1) _ (by omega) (by omega) hd
    exact key m 0 s (by omega) (by omega) hd
theorem Aag (h:Pair a b n m) (emb:Bool) (acc:List Int→Prop) (M:Nat):(Em a b n m emb acc M).2.Nodup ∧ ∀z∈(Em a b n m emb acc M).2,FoundZ a b n m emb acc z:=by
 cases e:Bk a b n m emb (List.replicate n (-1)) with
 | none=>rw [Xa e];exact ⟨List.nodup_nil,fun z hz=>by cases hz⟩
 | some g=>
   rw [R5 e]
   obtain ⟨g1,g2,g3,g4,g5⟩:=N9 h (Vo n m) e
   obtain ⟨l,e1,n1,p1⟩:=Av1 h emb acc M (Be g+1) (0,[]) g (Nat.lt_succ_self _) g1 g4 g5
   rw [e1]
   exact ⟨by simpa using n1,fun z hz=>(p1 z (by simpa using hz)).1⟩
theorem Ay2 (h:Pair a b n m) (emb:Bool) (acc:List Int→Prop) (M:Nat) {z:List Int} (hz:Uz a b z) (ha:acc z) (hi:emb=true→Mh z) (hd:¬Df M (Em a b n m emb acc M)):z∈(Em a b n m emb acc M).2:=by
 have he:ext (List.replicate n (-1)) z:=fun x hx h0=>by
  rw [Uy _ (by simpa using hx)] at h0
  omega
 obtain ⟨g,e,hg⟩:=Aly h (Vo n m) hz hi he
 rw [R5 e] at hd ⊢
 exact A3e h emb acc M hz ha hi (Be g+1) (0,[]) g (Nat.lt_succ_self _) (N9 h (Vo n m) e).1 hg hd
end
end Go.Proofs.Ytmkgjnphianalaa.Ax
namespace Go.Proofs.Ytmkgjnphianalaa.Ax
open Go Classical
theorem Av6 : ∀ {n:Nat} {p:Nat→Bool},(Cj n p).length=n ↔ ∀i,i<n→p i=true:=by
 intro n
 induction n with
 | zero=>intro p;exact ⟨fun _ i hi=>by omega,fun _=>rfl⟩
 | succ n ih=>
   intro p
   rw [Fo]
   have hl:=Re n p
   by_cases hp:p n=true
   ·rw [if_pos hp,List.length_append,List.length_singleton]
    constructor
    ·intro h i hi
     by_cases e:i=n
     ·subst e;exact hp
     ·exact ih.1 (by omega) i (by omega)
    ·intro h
     rw [ih.2 fun i hi=>h i (by omega)]
   ·rw [if_neg hp]
    exact ⟨fun h=>by omega,fun h=>absurd (h n (by omega)) hp⟩
section
variable {a b:SAlgebra} {n m:Nat}
theorem A3c (hn:n≤8):Azw n m 301 (Ey m false) .inl:=by
 have hL:=Ay
 intro f fs hf _ hl
 have ha:Ey m false f:=fun hc=>by cases hc
 unfold Dt Jd
 dsimp only
 rw [Zd (by have:=hf.1;omega)]
 simp only [Option.bind_some]
 rw [Af (by simp only [List.length_singleton];omega),if_pos ha]
 simp only [Option.bind_some]
 refine congrArg some (Prod.ext ?_ rfl)
 rw [decide_eq_decide]
 omega
theorem A4a (hn:n≤8):Azw n m 1 (Ey m false) (fun fs=> .inr (.inl (),fs.head?)):=by
 have hL:=Ay
 intro f fs hf _ hl
 have ha:Ey m false f:=fun hc=>by cases hc
 have:fs=[]:=List.length_eq_zero_iff.1 (by omega)
 subst this
 unfold Dt Gu K9
 dsimp only [List.head?_nil]
 simp only [Option.bind_some]
 rw [if_pos trivial,Zd (by have:=hf.1;omega),if_pos ha]
 simp only [Option.bind_some]
 rfl
theorem Azm {f:List Int} (hl:f.length≤1048576) (hm:m≤8) (hf:Ce f m):Ig f (m:Int)=some (Cj m fun z=>decide ((z:Int)∈f)):=by
 have hL:=Ay
 unfold Ig
 rw [A4i (by omega) hf (by omega)]
 simp only [Option.bind_some]
 rw [A3n (by omega)]
 rfl
theorem A3m (hn:n≤8) (hm:m≤8) (hb:b.Size=m):Azw n m 1 (Ey m true) (fun fs=> .inr (.inr b,fs.head?)):=by
 have hL:=Ay
 intro f fs hf h0 hl
 have:fs=[]:=List.length_eq_zero_iff.1 (by omega)
 subst this
 have hin:Ce f m:=fun x hx=>⟨Ac0.1 h0 x hx,(hf.2 x hx).2⟩
 have hfl:=hf.1
 have eo:Eu f b=some (decide (Ey m true f)):=by
  unfold Eu
  rw [hb,Azm (by omega) hm hin]
  simp only [Option.bind_some]
  refine congrArg some ?_
  have e1:((Cj m fun z=>decide ((z:Int)∈f)).length:Int)=m↔Ey m true f:=by
   rw [show (((Cj m fun z=>decide ((z:Int)∈f)).length:Int)=(m:Int))↔(Cj m fun z=>decide ((z:Int)∈f)).length=m by omega,Av6]
   exact ⟨fun h _ x hx=>by simpa using h x hx,fun h x hx=>decide_eq_true (h rfl x hx)⟩
  by_cases hx:Ey m true f
  ·rw [decide_eq_true hx];exact beq_iff_eq.2 (e1.2 hx)
  ·rw [decide_eq_false hx]
   exact Bool.eq_false_iff.2 fun hc=>hx (e1.1 (beq_iff_eq.1 hc))
 unfold Dt Gu
 dsimp only [List.head?_nil]
 rw [eo]
 simp only [Option.bind_some]
 by_cases ha:Ey m true f
 ·rw [decide_eq_true ha,if_pos rfl,Zd (by omega),if_pos ha]
  simp only [Option.bind_some]
  rfl
 ·rw [decide_eq_false ha,if_neg (by simp),if_neg ha]
  simp only [Option.bind_some]
  rfl
noncomputable def Agd (a b:SAlgebra) (n m:Nat) (emb:Bool):List (List Int)×Bool:=if (Em a b n m emb (Ey m false) 301).1≤5000∧(Em a b n m emb (Ey m false) 301).2.length≤300 then ((Em a b n m emb (Ey m false) 301).2,true) else ([],false)
theorem Aud (h:Pair a b n m) (emb:Bool):Ie a b emb=some (Agd a b n m emb):=by
 obtain ⟨hn,hn8,hm,hm8⟩:=h.pos
 have e:=Apd h emb (M:=301) (by omega) (A3c (m:=m) hn8)
 unfold Ie
 have e':Di a b emb (Sum.inl (Ao (List Int)))=Azu .inl (Em a b n m emb (Ey m false) 301):=e
 rw [e']
 unfold Azu Agd
 simp only [Option.bind_some]
 by_cases h1:(Em a b n m emb (Ey m false) 301).1≤5000
 ·rw [decide_eq_true h1,if_pos rfl]
  by_cases h2:(Em a b n m emb (Ey m false) 301).2.length≤300
  ·rw [if_neg (by omega),if_pos ⟨h1,h2⟩]
  ·rw [if_pos (by omega),if_neg (fun hc=>h2 hc.2)]
 ·rw [decide_eq_false h1,if_neg (by simp),if_neg (fun hc=>h1 hc.1)]
theorem Atq (h:Pair a b n m) (emb:Bool):((Cq a b emb false 301).bind fun r3=>if r3.2=true then if (r3.1.length:Int)>300 then some (Ao (List Int),false) else some (r3.1,true) else some (Ao (List Int),false))=some (Agd a b n m emb):=by
 have e:Cq a b emb false 301=A0m (Em a b n m emb (Ey m false) 301):=Axq h emb false (M:=301) (by omega) (by omega)
 rw [e]
 unfold A0m Agd
 simp only [Option.bind_some]
 by_cases h1:(Em a b n m emb (Ey m false) 301).1≤5000
 ·rw [decide_eq_true h1,if_pos rfl]
  by_cases h2:(Em a b n m emb (Ey m false) 301).2.length≤300
  ·rw [if_neg (by omega),if_pos ⟨h1,h2⟩]
  ·rw [if_pos (by omega),if_neg (fun hc=>h2 hc.2)]
 ·rw [decide_eq_false h1,if_neg (by simp),if_neg (fun hc=>h1 hc.1)]
theorem A0c (h:Pair a b n m) (emb:Bool) (ht:(Agd a b n m emb).2=true):(Agd a b n m emb).1.Nodup∧(Agd a b n m emb).1.length≤300 ∧ ∀z,z∈(Agd a b n m emb).1↔Uz a b z∧(emb=true→Mh z):=by
 unfold Agd at ht ⊢
 by_cases hc:(Em a b n m emb (Ey m false) 301).1≤5000∧(Em a b n m emb (Ey m false) 301).2.length≤300
 ·rw [if_pos hc]
  obtain ⟨h1,h2⟩:=Aag h emb (Ey m false) 301
  refine ⟨h1,hc.2,fun z=>⟨fun hz=>⟨(h2 z hz).hom,(h2 z hz).into⟩,fun hz=>Ay2 h emb (Ey m false) 301 hz.1 (fun hx=>by cases hx) hz.2 (by unfold Df;omega)⟩⟩
 ·rw [if_neg hc] at ht;cases ht
theorem A49 {emb:Bool} (ht:¬(Agd a b n m emb).2=true):Agd a b n m emb=([],false):=by
 unfold Agd at ht ⊢
 split
 ·rename_i hc;rw [if_pos hc] at ht;exact absurd rfl ht
 ·rfl
noncomputable def Afy (a b:SAlgebra) (n m:Nat) (emb onto:Bool):List Int×Bool:=if (Em a b n m emb (Ey m onto) 1).1≤5000 then (match (Em a b n m emb (Ey m onto) 1).2 with | []=>([],false) | f::_=>(f,true)) else ([],false)
theorem A23 (h:Pair a b n m) (emb onto:Bool):Kg a b emb onto=some (Afy a b n m emb onto):=by
 have e:Cq a b emb onto 1=A0m (Em a b n m emb (Ey m onto) 1):=Axq h emb onto (M:=1) (by omega) (by omega)
 unfold Kg
 rw [e]
 unfold A0m Afy
 simp only [Option.bind_some]
 by_cases h1:(Em a b n m emb (Ey m onto) 1).1≤5000
 ·rw [decide_eq_true h1,if_pos rfl,if_pos h1]
  cases e2:(Em a b n m emb (Ey m onto) 1).2 with
  | nil=>rfl
  | cons f fs=>
    rw [if_neg (by simp only [List.length_cons];omega),Af (by simp only [List.length_cons];omega)]
    rfl
 ·rw [decide_eq_false h1,if_neg (by simp),if_neg h1]
theorem Au1 (h:Pair a b n m) (emb onto:Bool) (good:Unit ⊕ SAlgebra) (hfc:Azw n m 1 (Ey m onto) (fun fs=> .inr (good,fs.head?))):Gj a b emb good=some ((Em a b n m emb (Ey m onto) 1).2.head?,decide ((Em a b n m emb (Ey m onto) 1).1≤5000)):=by
 have e:=Apd h emb (M:=1) (by omega) hfc
 unfold Gj
 have e':Di a b emb (Sum.inr (good,none))=Azu (fun fs=> .inr (good,fs.head?)) (Em a b n m emb (Ey m onto) 1):=e
 rw [e']
 unfold Azu
 simp only [Option.bind_some]
 cases (Em a b n m emb (Ey m onto) 1).2<;>rfl
theorem Ao1 (h:Pair a b n m) (emb onto:Bool):((match ((Em a b n m emb (Ey m onto) 1).2.head?,decide ((Em a b n m emb (Ey m onto) 1).1≤5000)) with
  | (none,r3_2)=>if r3_2=true then some (Ao Int,false) else some (Ao Int,false)
  | (some r3_1,r3_2)=>if r3_2=true then ask ((0:Int)<r3_1.length) (some (r3_1,true)) else some (Ao Int,false)):Option (List Int×Bool))=some (Afy a b n m emb onto):=by
 obtain ⟨hn,hn8,hm,hm8⟩:=h.pos
 have hf:=(Aag h emb (Ey m onto) 1).2
 unfold Afy
 cases e2:(Em a b n m emb (Ey m onto) 1).2 with
 | nil=>
   dsimp only [List.head?_nil]
   rw [ite_self,ite_self]
 | cons f fs=>
   dsimp only [List.head?_cons]
   have hl:=(hf f (by rw [e2];simp)).ok.1
   by_cases h1:(Em a b n m emb (Ey m onto) 1).1≤5000
   ·rw [decide_eq_true h1,if_pos rfl,if_pos h1,Af (by omega)]
   ·rw [decide_eq_false h1,if_neg (by simp),if_neg h1]
theorem Apn (h:Pair a b n m) (emb onto:Bool) (ht:(Afy a b n m emb onto).2=true):Uz a b (Afy a b n m emb onto).1∧(emb=true→Mh (Afy a b n m emb onto).1)∧Ey m onto (Afy a b n m emb onto).1:=by
 have hf:=(Aag h emb (Ey m onto) 1).2
 unfold Afy at ht ⊢
 by_cases h1:(Em a b n m emb (Ey m onto) 1).1≤5000
 ·rw [if_pos h1] at ht ⊢
  cases e2:(Em a b n m emb (Ey m onto) 1).2 with
  | nil=>rw [e2] at ht;cases ht
  | cons f fs=>
    have:=hf f (by rw [e2];simp)
    exact ⟨this.hom,this.into,this.acc⟩
 ·rw [if_neg h1] at ht;cases ht
theorem A3o (h:Pair a b n m) (emb onto:Bool):(Afy a b n m emb onto).1.length≤8:=by
 obtain ⟨hn,hn8,hm,hm8⟩:=h.pos
 by_cases ht:(Afy a b n m emb onto).2=true
 ·have:=(Apn h emb onto ht).1.2.1.1
  have:=h.sa
  omega
 ·unfold Afy at ht ⊢
  split
  ·rename_i h1
   rw [if_pos h1] at ht
   split
   ·simp
   ·rename_i e;rw [e] at ht;exact absurd rfl ht
  ·simp
noncomputable def Lr (a b:SAlgebra) (emb:Bool):List (List Int)×Bool:=if Ko a b then Agd a b a.Size.toNat b.Size.toNat emb else ([],false)
noncomputable def Zy (a b:SAlgebra) (emb onto:Bool):List Int×Bool:=if Ko a b then Afy a b a.Size.toNat b.Size.toNat emb onto else ([],false)
theorem Aqj (ha:F8 a) (hb:F8 b):Je a b=some (Lr a b false)∧Jw a b=some (Lr a b false):=by
 unfold Je Jw Lr
 rw [Ad4 ha hb,Ajn ha hb]
 simp only [Option.bind_some]
 by_cases h:Ko a b
 ·have hP:=O5 h
  rw [show (decide (C5 a∧C5 b∧Dg a=Dg b))=true from decide_eq_true h,if_pos rfl,if_pos h,Aud hP]
  exact ⟨rfl,Atq hP false⟩
 ·rw [show (decide (C5 a∧C5 b∧Dg a=Dg b))=false from decide_eq_false h,if_neg (by simp),if_neg h]
  exact ⟨rfl,rfl⟩
theorem Abd (ha:F8 a) (hb:F8 b):El a b=some (Zy a b true false)∧En a b=some (Zy a b true false):=by
 unfold El En Zy
 rw [Ad4 ha hb,Ajn ha hb]
 simp only [Option.bind_some]
 by_cases h:Ko a b
 ·have hP:=O5 h
  rw [show (decide (C5 a∧C5 b∧Dg a=Dg b))=true from decide_eq_true h,if_pos rfl,if_pos h,Au1 hP true false _ (A4a hP.pos.2.1),A23 hP]
  exact ⟨Ao1 hP true false,rfl⟩
 ·rw [show (decide (C5 a∧C5 b∧Dg a=Dg b))=false from decide_eq_false h,if_neg (by simp),if_neg h]
  exact ⟨rfl,rfl⟩
theorem Ak2 (ha:F8 a) (hb:F8 b):Hk a b=some (Zy a b false true)∧Hj a b=some (Zy a b false true):=by
 unfold Hk Hj Zy
 rw [Ad4 ha hb,Ajn ha hb]
 simp only [Option.bind_some]
 by_cases h:Ko a b
 ·have hP:=O5 h
  rw [show (decide (C5 a∧C5 b∧Dg a=Dg b))=true from decide_eq_true h,if_pos rfl,if_pos h,Au1 hP false true _ (A3m hP.pos.2.1 hP.pos.2.2.2 hP.sb),A23 hP]
  exact ⟨Ao1 hP false true,rfl⟩
 ·rw [show (decide (C5 a∧C5 b∧Dg a=Dg b))=false from decide_eq_false h,if_neg (by simp),if_neg h]
  exact ⟨rfl,rfl⟩
theorem Agz {emb:Bool} (ht:(Lr a b emb).2=true):Ko a b∧(Lr a b emb).1.Nodup∧(Lr a b emb).1.length≤300 ∧ ∀z,z∈(Lr a b emb).1↔Uz a b z∧(emb=true→Mh z):=by
 unfold Lr at ht ⊢
 by_cases h:Ko a b
 ·rw [if_pos h] at ht ⊢
  exact ⟨h,A0c (O5 h) emb ht⟩
 ·rw [if_neg h] at ht;cases ht
theorem Ayq {emb:Bool} (ht:¬(Lr a b emb).2=true):Lr a b emb=([],false):=by
 unfold Lr at ht ⊢
 split
 ·rename_i h;rw [if_pos h] at ht;exact A49 ht
 ·rfl
theorem A0s (emb:Bool):(Lr a b emb).1.length≤300 ∧ ∀z∈(Lr a b emb).1,z.length≤8:=by
 by_cases ht:(Lr a b emb).2=true
 ·obtain ⟨h,_,h2,h3⟩:=Agz ht
  refine ⟨h2,fun z hz=> ?_⟩
  have:=((h3 z).1 hz).1.2.1.1
  have:=h.1.2.1
  omega
 ·rw [Ayq ht]
  exact ⟨by simp,fun z hz=>by cases hz⟩
theorem Azp {emb onto:Bool} (ht:(Zy a b emb onto).2=true):Uz a b (Zy a b emb onto).1∧(emb=true→Mh (Zy a b emb onto).1)∧Ey b.Size.toNat onto (Zy a b emb onto).1:=by
 unfold Zy at ht ⊢
 by_cases h:Ko a b
 ·rw [if_pos h] at ht ⊢
  exact Apn (O5 h) emb onto ht
 ·rw [if_neg h] at ht;cases ht
theorem Alq (emb onto:Bool):(Zy a b emb onto).1.length≤8:=by
 unfold Zy
 split
 ·rename_i h;exact A3o (O5 h) emb onto
 ·simp
def Aq1 (a b:SAlgebra) (f:List Int):Prop:=Ko a b∧okF a.Size.toNat b.Size.toNat f
noncomputable def Ux (a b:SAlgebra) (f:List Int):List Int×Bool:=if Aq1 a b f then (match Sg a b a.Size.toNat b.Size.toNat f with | some g=>(g,true) | none=>([],false)) else ([],false)
theorem Ub (ha:F8 a) (hb:F8 b) {f:List Int} (_hl:f.length≤1048576):Ed a b f=some (Ux a b f)∧Fp a b f=some (Ux a b f):=by
 have hL:=Ay
 unfold Ed Fp
 rw [Ad4 ha hb,Ajn ha hb]
 simp only [Option.bind_some]
 by_cases h:Ko a b
 ·have hP:=O5 h
  obtain ⟨hn,hn8,hm,hm8⟩:=hP.pos
  rw [show (decide (C5 a∧C5 b∧Dg a=Dg b))=true from decide_eq_true h]
  simp only [if_true]
  by_cases hlen:(f.length:Int)=a.Size
  ·rw [if_neg (by simpa using hlen)]
   simp only [Option.bind_some]
   have hfn:f.length=a.Size.toNat:=by omega
   have t1:=Dn (body:=Ch a b f) (fun i=>(i:Int)) f.length (fun i=>¬(-1≤nth f i∧nth f i<b.Size)) () () (fun i hi hx=>by
    have hx:=Classical.not_not.1 hx
    unfold Ch
    rw [if_pos (by omega),Af (by omega),Int.toNat_natCast,if_neg (by omega),if_neg (by omega),Af (by unfold InI;omega)];rfl) (fun i hi hx=>by
    unfold Ch
    rw [if_pos (by omega),Af (by omega),Int.toNat_natCast]
    by_cases h1:nth f i < -1
    ·rw [if_pos h1]
    ·rw [if_neg h1,if_pos (by omega)]) (by
    unfold Ch
    rw [if_neg (by omega)]) 0 (by omega)
   have t2:=Dn (body:=Ci a b f) (fun i=>(i:Int)) f.length (fun i=>¬(-1≤nth f i∧nth f i<b.Size)) () () (fun i hi hx=>by
    have hx:=Classical.not_not.1 hx
    have:=hP.sb
    unfold Ci Eg
    rw [if_pos (by omega),Af (by omega),Af (by unfold InI;omega),Int.toNat_natCast,if_pos (by omega)]
    simp only [Option.bind_some]
    rw [decide_eq_true (by omega),if_pos rfl,Af (by unfold InI;omega)];rfl) (fun i hi hx=>by
    have:=hP.sb
    unfold Ci Eg
    rw [if_pos (by omega),Af (by omega),Af (by unfold InI;omega),Int.toNat_natCast]
    by_cases h1:nth f i ≥ -1
    ·rw [if_pos h1]
     simp only [Option.bind_some]
     rw [decide_eq_false (by omega),if_neg (by simp)]
    ·rw [if_neg h1]
     simp only [Option.bind_some]
     rw [if_neg (by simp)]) (by
    unfold Ci
    rw [if_neg (by omega)]) 0 (by omega)
   have t1':Al (Ch a b f) 0=_:=t1
   have t2':Al (Ci a b f) 0=_:=t2
   rw [t1',t2']
   by_cases hx : ∃i,0≤i∧i<f.length∧¬(-1≤nth f i∧nth f i<b.Size)
   ·rw [if_pos hx]
    have hno:¬Aq1 a b f:=by
     rintro ⟨_,hk⟩
     obtain ⟨i,_,hi,hb⟩:=hx
     have:=hk.2 _ (Az hi)
     have:=hP.sb
     omega
    unfold Ux
    rw [if_neg hno]
    exact ⟨rfl,rfl⟩
   ·rw [if_neg hx]
    have hok:okF a.Size.toNat b.Size.toNat f:=by
     refine ⟨hfn,fun x hxm=> ?_⟩
     obtain ⟨i,hi,rfl⟩:=I9.1 hxm
     have h2 : -1≤nth f i∧nth f i<b.Size:=Classical.byContradiction fun hc=>hx ⟨i,by omega,hi,hc⟩
     have:=hP.sb
     omega
    unfold Ux
    rw [if_pos ⟨h,hok⟩]
    simp only [Option.bind_some]
    rw [Zd (by omega),Aaz hP hok]
    simp only [Option.bind_some]
    rcases Ak9 hP hok with ⟨g,e1,e2⟩ | ⟨e1,x,e2⟩
    ·rw [e1,e2]
     exact ⟨by trivial,by trivial⟩
    ·rw [e1,e2]
     exact ⟨by trivial,by trivial⟩
  ·rw [if_pos hlen]
   have hno:¬Aq1 a b f:=by
    rintro ⟨_,hk⟩
    have:=hk.1
    have:=hP.sa
    omega
   unfold Ux
   rw [if_neg hno]
   exact ⟨rfl,rfl⟩
 ·have hno:¬Aq1 a b f:=fun hk=>h hk.1
  unfold Ux
  rw [show (decide (C5 a∧C5 b∧Dg a=Dg b))=false from decide_eq_false h,if_neg hno]
  exact ⟨rfl,rfl⟩
theorem Axh {f:List Int}:(Ux a b f).1.length≤8:=by
 unfold Ux
 split
 ·rename_i h
  have hP:=O5 h.1
  split
  ·rename_i g e
   have:=(Mf hP h.2 e).1.1
   have:=hP.pos.2.1
   dsimp only
   omega
  ·simp
 ·simp
end
section
variable {code:List Int} (hc : ∀x∈code,0≤x∧x≤255) (hl:code.length≤65536)
include hc hl
theorem Ap9 : ∃a b,Gc code=some (a,b)∧Ht a∧Ht b:=by
 unfold Gc
 obtain ⟨a,b,d,e,hd,ha,hb⟩:=App (Ayo hc hl) (by omega)
 rw [e]
 exact ⟨_,_,rfl,ha,hb⟩
theorem Adx : ∃a b f,D1 code=some (a,b,f)∧Ht a∧Ht b∧f.length≤9:=by
 unfold D1
 obtain ⟨a,b,d,e,hd,ha,hb⟩:=App (Ayo hc hl) (by omega)
 rw [e]
 simp only [Option.bind_some]
 obtain ⟨f,d2,e2,hd2,hf⟩:=A00 hd (by omega) (Hu ha) (Hu hb)
 rw [e2]
 simp only [Option.bind_some]
 obtain ⟨t,e3,ht⟩:=Cn (body:=C7 (a,b)) (fun s => ∃i:Nat,s.1=(i:Int)∧i≤f.length∧s.2.1.length=f.length∧Cur (30000+2*i) s.2.2) (fun s=>f.length-s.1.toNat) (fun t=>t.length=f.length) (by
  rintro ⟨x,g,c⟩ ⟨i,rfl,g1,g2,g3⟩
  dsimp only at g2 g3
  unfold C7
  dsimp only
  by_cases hi:i<f.length
  ·obtain ⟨w,d3,e4,hd3⟩:=Aef g3 (by omega) 3
   rw [if_pos (by omega),e4]
   simp only [Option.bind_some]
   by_cases hw:w=true
   ·rw [if_pos hw,Af (by unfold InI;omega)]
    exact .inl ⟨_,rfl,⟨i+1,rfl,by omega,g2,hd3.mono (by omega)⟩,by first | omega | (dsimp only;omega)⟩
   ·rw [if_neg hw,Af (by omega),Af (by unfold InI;omega)]
    exact .inl ⟨_,rfl,⟨i+1,rfl,by omega,by simpa using g2,hd3.mono (by omega)⟩,by first | omega | (dsimp only;omega)⟩
  ·rw [if_neg (by omega)]
   exact .inr ⟨_,rfl,g2⟩) (s:=((0:Int),f,d2)) ⟨0,rfl,Nat.zero_le _,rfl,hd2.mono (by omega)⟩
 rw [e3]
 exact ⟨_,_,_,rfl,ha,hb,by omega⟩
end
end Go.Proofs.Ytmkgjnphianalaa.Ax
