/-
 The law of posets, on plain functions.
-/
import Derived.Test.YtpfikenknmlajaaPB
import Derived.Test.YtpfikenknmlajaaLPosets
namespace Go.Proofs.Ytpfikenknmlajaa.Ax
open Go Classical
def Tm (n:Nat) (l:List Int):List Int:=(List.range n).map fun x:Nat=>((l.count (x:Int):Nat):Int)
theorem R9 (n:Nat) (l:List Int):(Tm n l).length=n:=by simp [Tm]
theorem Ac7 {n x:Nat} (l:List Int) (hx:x<n):nth (Tm n l) x=((l.count (x:Int):Nat):Int):=by
 unfold Tm
 rw [K2 _ (by simpa using hx),I7 hx]
theorem A4h (n:Nat):Tm n []=List.replicate n 0:=by
 refine Px (by rw [R9];simp) fun x hx=> ?_
 rw [R9] at hx
 rw [Ac7 _ hx,Bh _ hx];rfl
theorem A4r {n z:Nat} (l:List Int) (hz:z<n):Tm n (l++[(z:Int)])=(Tm n l).set z (nth (Tm n l) z+1):=by
 refine Px (by rw [List.length_set,R9,R9]) fun x hx=> ?_
 rw [R9] at hx
 rw [Bm _ _ _ _ (by rw [R9];exact hx),Ac7 _ hx,Ac7 _ hx,Ac7 _ hz,List.count_append,List.count_singleton]
 by_cases e:z=x
 ·subst e;simp
 ·rw [if_neg e,if_neg (Rx e),Nat.add_zero]
section
variable {p:SPoset} {C:List (List Int)} {an:List Int×Bool} {b:Bool} (hs:small p) (hg:good p.Below) (hrow : ∀r∈C,(∀v∈r,∃z:Nat,z<p.Below.length∧v=(z:Int))∧r.Pairwise (fun u v=>A8 (below p.Below) u.toNat v.toNat=true))
 (hone : ∀x,x<p.Below.length→C.flatten.count (x:Int)=1)
include hs hg hrow hone
theorem A69 {i:Nat} (hi:i<C.length):Aj (Ei p (C,b) an (i:Int)) (0,Tm p.Below.length (C.take i).flatten)=some (.inr (Tm p.Below.length (C.take (i+1)).flatten)):=by
 have h10:p.Below.length≤10:=hg.1
 obtain ⟨h1,h2⟩:=hrow _ (Ba hi)
 have hval : ∀k,k<(nth C i).length → ∃z:Nat,z<p.Below.length∧nth (nth C i) k=(z:Int):=fun k hk=>h1 _ (Ba hk)
 have hfl:C.flatten=(C.take i).flatten++(nth C i++(C.drop (i+1)).flatten):=by
  conv=>lhs;rw [←List.take_append_drop i C,List.drop_eq_getElem_cons hi,←Fq hi,List.flatten_append,List.flatten_cons]
 have hlen:(nth C i).length≤100:=by
  have key : ∀l:List Int,(∀v∈l,∃z:Nat,z<p.Below.length∧v=(z:Int))→l.Pairwise (fun u v=>A8 (below p.Below) u.toNat v.toNat=true)→l.length≤p.Below.length:=fun l ha hb=>by
   have hnd:l.Nodup:=hb.imp fun {u v} hh e=>by
    subst e
    simp [A8] at hh
   have:=Agk (L:=l) (M:=(List.range p.Below.length).map fun z:Nat=>(z:Int)) hnd fun v hv=>by
    obtain ⟨z,hz,rfl⟩:=ha v hv
    exact List.mem_map.2 ⟨z,List.mem_range.2 hz,rfl⟩
   rw [List.length_map,List.length_range] at this
   exact this
  have:=key _ h1 h2
  omega
 have main:=Az (body:=Ei p (C,b) an (i:Int)) (fun k=>((k:Int),Tm p.Below.length ((C.take i).flatten++(nth C i).take k))) (nth C i).length (.inr (Tm p.Below.length (C.take (i+1)).flatten)) (fun k hk=>by
  obtain ⟨z,hz,ez⟩:=hval k hk
  have hc:nth (Tm p.Below.length ((C.take i).flatten++(nth C i).take k)) z≤1∧0≤nth (Tm p.Below.length ((C.take i).flatten++(nth C i).take k)) z:=by
   rw [Ac7 _ hz]
   have h3:=hone z hz
   rw [hfl,List.count_append,List.count_append] at h3
   have h4:=(List.take_sublist k (nth C i)).count_le (z:Int)
   rw [List.count_append]
   omega
  have hl:=R9 p.Below.length ((C.take i).flatten++(nth C i).take k)
  have step:Tm p.Below.length ((C.take i).flatten++(nth C i).take (k+1))=(Tm p.Below.length ((C.take i).flatten++(nth C i).take k)).set z (nth (Tm p.Below.length ((C.take i).flatten++(nth C i).take k)) z+1):=by
   rw [Ya hk,ez,←List.append_assoc,A4r _ hz]
  unfold Ei
  dsimp only
  rw [step]
  generalize Tm p.Below.length ((C.take i).flatten++(nth C i).take k)=s at *
  rw [tna0,tna0,Ae (by omega),if_pos (by omega),ez,tna0]
  repeat rw [Ae (by first | omega | (unfold InI;omega))]
  by_cases h0:k=0
  ·subst h0
   rw [if_neg (by omega)]
   repeat rw [Ae (by first | omega | (unfold InI;omega))]
   rfl
  ·rw [if_pos (by omega)]
   have ek:((k:Int)-1).toNat=k-1:=by omega
   obtain ⟨y,hy,ey⟩:=hval (k-1) (by omega)
   repeat rw [Ae (by first | omega | (unfold InI;omega))]
   have hp:=List.pairwise_iff_getElem.1 h2 (k-1) k (by omega) hk (by omega)
   rw [←Fq (by omega),←Fq hk,ey,ez,tna0,tna0] at hp
   have hb:below p.Below y z=true:=by
    unfold A8 at hp
    rw [Bool.and_eq_true] at hp
    exact hp.2
   rw [ek,ey,Awj hs hg hy hz,hb]
   simp only [obs0,if_true]
   repeat rw [Ae (by first | omega | (unfold InI;omega))]
   rfl) (by
  unfold Ei
  dsimp only
  rw [tna0,Ae (by omega),if_neg (by omega),List.take_length,Ya hi,List.flatten_append,List.flatten_singleton])
 rw [List.take_zero,List.append_nil] at main
 exact main
theorem A3z (hC:C.length≤1000):Aj (Ek p (C,b) an) (0,List.replicate p.Below.length 0)=some (.inr (Tm p.Below.length C.flatten)):=by
 rw [←A4h]
 have main:=Az (body:=Ek p (C,b) an) (fun i=>((i:Int),Tm p.Below.length (C.take i).flatten)) C.length (.inr (Tm p.Below.length C.flatten)) (fun i hi=>by
  unfold Ek
  dsimp only
  rw [if_pos (by omega),A69 hs hg hrow hone hi]
  simp only [obs0]
  rw [Ae (by unfold InI;omega)]
  rfl) (by
  unfold Ek
  dsimp only
  rw [if_neg (by omega),List.take_length])
 exact main
omit hs hrow in
theorem A3y:Aj (Ed p (C,b) an (Tm p.Below.length C.flatten)) 0=some (.inr ()):=by
 have h10:p.Below.length≤10:=hg.1
 have main:=Az (body:=Ed p (C,b) an (Tm p.Below.length C.flatten)) (fun i=>(i:Int)) p.Below.length (.inr ()) (fun i hi=>by
  have hl:=R9 p.Below.length C.flatten
  unfold Ed
  rw [if_pos (by omega),Ae (by omega),tna0,Ac7 _ hi,hone i hi,if_neg (by simp),Ae (by unfold InI;omega)]
  rfl) (by
  unfold Ed
  rw [if_neg (by omega)])
 exact main
end
theorem A30 {p:SPoset} (h10:p.Below.length≤10) (g:Nat→Nat) (hg : ∀x,x<p.Below.length→g x≤10) (b:Bool) (r:List Int×Bool):Aj (Dj p ((List.range p.Below.length).map fun x=>((g x:Nat):Int),b) r) (0,0)=some ((mx p.Below.length fun x=>g x+1:Nat):Int):=by
 have main:=Az (body:=Dj p ((List.range p.Below.length).map fun x=>((g x:Nat):Int),b) r) (fun i=>((i:Int),((mx i fun x=>g x+1:Nat):Int))) p.Below.length ((mx p.Below.length fun x=>g x+1:Nat):Int) (fun i hi=>by
  have h1:=hg i hi
  have hn:nth ((List.range p.Below.length).map fun x=>((g x:Nat):Int)) i=((g i:Nat):Int):=by
   rw [K2 _ (by simpa using hi),I7 hi]
  have hl:((List.range p.Below.length).map fun x=>((g x:Nat):Int)).length=p.Below.length:=by simp
  unfold Dj
  dsimp only
  rw [if_pos (by omega),Ae (by omega),tna0,hn,Ae (by unfold InI;omega)]
  simp only [mx]
  by_cases hc:(g i:Int)+1>((mx i fun x=>g x+1:Nat):Int)
  ·rw [if_pos hc]
   repeat rw [Ae (by first | omega | (unfold InI;omega))]
   rw [show max (mx i fun x=>g x+1) (g i+1)=g i+1 by omega]
   rfl
  ·rw [if_neg hc]
   repeat rw [Ae (by first | omega | (unfold InI;omega))]
   rw [show max (mx i fun x=>g x+1) (g i+1)=mx i fun x=>g x+1 by omega]
   rfl) (by
  unfold Dj
  dsimp only
  rw [if_neg (by omega)])
 exact main
theorem Ayi {code:List Int} (h:code.length≤BIG ∧ ∀x∈code,0≤x∧x≤255):Mx code=some true:=by
 unfold Mx Wy
 simp only [obs0]
 by_cases hbig:(code.length:Int)>65536
 ·rw [if_pos (by simpa using hbig)]
 rw [if_neg (by simpa using hbig)]
 have hL:=Ao
 obtain ⟨p,d,ed,_,hp⟩:=Aw2 (show Cur 0 ({ code:=code,at_:=0,seed:=0 }:Sl1Cur) from ⟨h.2,by dsimp only;omega,Int.le_refl _,Int.le_refl _⟩) (by omega)
 have hs:=Ay3 hp
 have ed':Em code=some p:=by
  unfold Em Jf
  rw [ed];rfl
 rw [ed']
 simp only [obs0]
 by_cases hg:good p.Below
 ·have h10:p.Below.length≤10:=hg.1
  have hO:=Aoi hg
  have hSt:=Amp hO
  obtain ⟨φ,next,e1,e2,hφ,hN,hk⟩:=Awd hs hg
  obtain ⟨a1,a2⟩:=Acp hs hg
  obtain ⟨long,l1,l2,l3⟩:=Ajk hs hg
  have hw:=A02 (by omega) hO hφ hN hk
  have hcl:=Ahb p.Below.length φ next p.Below.length
  obtain ⟨_,hrl⟩:=A06 hSt hφ hN
  have hrow : ∀r∈Ta p.Below.length φ next p.Below.length,(∀v∈r,∃z:Nat,z<p.Below.length∧v=(z:Int))∧r.Pairwise (fun u v=>A8 (below p.Below) u.toNat v.toNat=true):=fun r hr=>by
   obtain ⟨y,hy,rfl⟩:=List.mem_map.1 hr
   obtain ⟨c1,c2⟩:=Awi hSt hφ hN y (List.mem_range.1 (List.mem_filter.1 hy).1)
   exact ⟨fun v hv=>by obtain ⟨z,hz,e,_⟩:=c1 v hv;exact ⟨z,hz,e⟩,c2⟩
  have hone : ∀x,x<p.Below.length→(Ta p.Below.length φ next p.Below.length).flatten.count (x:Int)=1:=fun x hx=>Aot hSt hφ hN hx
  have hbl:=Asi p.Below.length (below p.Below) (2^p.Below.length)
  have hhu : ∀x,ht p.Below.length (rel (below p.Below) true) x≤p.Below.length:=fun x=>Apg x
  have hmx:(mx p.Below.length fun x=>hup p x+1)=mx p.Below.length fun x=>ht p.Below.length (rel (below p.Below) true) x+1:=A6t (Ako hg) (W3 hg) fun x y _ _=>by simp [rel]
  have hll:long.length≤11:=by
   rw [l3]
   refine Aoy fun x _=> ?_
   have:hup p x≤p.Below.length:=Apg (n:=p.Below.length) (r:=rel (below p.Below) false) x
   omega
  generalize Ta p.Below.length φ next p.Below.length=C at *
  rw [e2]
  simp only [obs0]
  rw [e1]
  simp only [obs0]
  rw [if_pos (show (true==true)=true from rfl),An7 (by omega) (fun r hr=>by have:=hrl r hr;omega)]
  simp only [obs0,if_true]
  rw [a2]
  simp only [obs0]
  rw [a1]
  simp only [obs0]
  rw [if_pos (show (true==true)=true from rfl),if_pos (show (true==true)=true from rfl),Ahz (by omega)]
  simp only [obs0,if_true]
  rw [Ae (by omega),tna0,A3z hs hg hrow hone (by omega)]
  simp only [obs0]
  rw [A3y hg hone]
  simp only [obs0]
  rw [if_neg (by omega),At6 hs hg]
  simp only [obs0]
  rw [l2]
  simp only [obs0]
  rw [l1]
  simp only [obs0]
  rw [if_pos (show (true==true)=true from rfl)]
  simp only [if_true]
  rw [Ahz (by omega)]
  simp only [obs0,if_true]
  rw [if_neg (by simp [Hv])]
  simp only [obs0]
  have hm:Aj (Dj p (Hv p.Below.length (rel (below p.Below) true),true) (long,true)) (0,0)=some ((mx p.Below.length fun x=>ht p.Below.length (rel (below p.Below) true) x+1:Nat):Int):=A30 h10 _ (fun x _=>by have:=hhu x;omega) _ _
  rw [hm]
  simp only [obs0]
  rw [if_neg (by rw [l3,hmx];simp),Ap4 hs hg]
  simp only [obs0]
  rw [Aqq hg]
  simp only [obs0]
  have hT:G8 p.Below p.Below=some true:=An7 hs.1 hs.2
  simp only [if_true]
  rw [hT]
  simp only [obs0,if_true]
  rw [Agp hs hg]
  simp only [obs0]
  rw [Agp (Afv hs) (Y9 hg),Arr hg]
  simp only [obs0]
  simp only [if_true]
  rw [hT]
  simp only [obs0,if_true]
  obtain ⟨r,c1,c2⟩:=Acm hs
  have c3:=T9 hs hg
  rw [c2] at c3
  have c4:=Option.some.inj c3
  subst c4
  have hpos:=A5f (n:=p.Below.length) (f:=below p.Below) (W3 hg) h10
  rw [c2]
  simp only [obs0]
  rw [A3x hs hg]
  simp only [obs0]
  rw [c1]
  simp only [obs0]
  rw [if_neg (by simp),if_pos (show (true==true)=true from rfl)]
  simp only [if_true]
  rw [if_neg (by simp),if_neg (by omega)]
  simp only [obs0]
  rw [A4e hs hg,U1 hs hg]
  simp only [obs0]
  have hsl:=G9 p.Below.length fun x=>decide ((nth p.Below x).length=1)
  simp only [if_true]
  rw [Ahz (by omega)]
  rfl
 ·obtain ⟨o,e⟩:=Ark p hs.1 hs.2 hg
  have f1:D3 p=some (Ar (List Int),false):=by
   unfold D3
   rw [e];rfl
  have f2:D1 p=some (Ar (List Int),false):=by
   unfold D1
   rw [Tg p hs.1 hs.2,dfa0 hg];rfl
  have f3:Cr p=some ([],false):=by
   unfold Cr
   rw [e];rfl
  have f4:Cm p=some ([],false):=by
   unfold Cm
   rw [Tg p hs.1 hs.2,dfa0 hg];rfl
  have f5:Lq p=some false:=by
   unfold Lq
   rw [e];rfl
  rw [f1]
  simp only [obs0]
  rw [f2]
  simp only [obs0]
  rw [if_pos (show (false==false)=true from rfl),An7 (by simp [Ar]) (fun r hr=>by simp [Ar] at hr)]
  simp only [obs0,if_true]
  rw [f3]
  simp only [obs0]
  rw [f4]
  simp only [obs0]
  rw [if_pos (show (false==false)=true from rfl),if_pos (show (false==false)=true from rfl),Ahz (by simp)]
  simp only [obs0,if_true]
  rw [if_neg (by simp),f5]
  rfl
end Go.Proofs.Ytpfikenknmlajaa.Ax
