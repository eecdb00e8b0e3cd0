/-
 The law of the search for homomorphisms, on plain functions.
-/
import Derived.Test.YtmkgjnphianalaaPB
import Derived.Test.YtmkgjnphianalaaLHomSearch
namespace Go.Proofs.Ytmkgjnphianalaa.Ax
open Go Classical
theorem Azg {xss:List (List Int)} (h:xss.length≤LIM) (h1 : ∀r∈xss,r.length≤LIM):Kx xss xss=some true:=by
 have hL:=Ay
 unfold Kx
 rw [if_neg (by simp)]
 have this:=Dn (body:=Et xss xss) (fun i=>(i:Int)) xss.length (fun _=>False) () () (fun i hi _=>by
  unfold Et
  rw [if_pos (by omega),Af (by omega),Af (by omega),Int.toNat_natCast,Aed (h1 _ (Az hi))]
  simp only [Option.bind_some,if_true]
  rw [Af (by unfold InI;omega)];rfl) (fun i _ hb=>absurd hb id) (by
  unfold Et
  rw [if_neg (by omega)]) 0 (by omega)
 have this':Al (Et xss xss) 0=_:=this
 rw [this',if_neg (by rintro ⟨i,_,_,h⟩;exact h)]
 rfl
theorem Atf {xs ys:List Int} (_h:xs.length≤LIM) (h2:ys.length≤LIM):D7 xs ys=some (decide (xs=ys)):=by
 have hL:=Ay
 unfold D7
 by_cases hl:xs.length=ys.length
 ·rw [if_neg (by omega)]
  have this:=Dn (body:=Cy xs ys) (fun i=>(i:Int)) xs.length (fun i=>nth xs i≠nth ys i) () () (fun i hi hx=>by
   have hx:=Classical.not_not.1 hx
   unfold Cy
   rw [if_pos (by omega)]
   repeat rw [Af (by first | omega | (unfold InI;omega))]
   rw [Int.toNat_natCast,if_neg (by simpa using hx)]
   repeat rw [Af (by first | omega | (unfold InI;omega))]
   rfl) (fun i hi hx=>by
   unfold Cy
   rw [if_pos (by omega)]
   repeat rw [Af (by first | omega | (unfold InI;omega))]
   rw [Int.toNat_natCast,if_pos hx]) (by
   unfold Cy
   rw [if_neg (by omega)]) 0 (by omega)
  refine (F2 this false true).trans ?_
  by_cases e:xs=ys
  ·rw [decide_eq_true e,if_neg]
   rintro ⟨i,_,hi,hx⟩
   exact hx (by rw [e])
  ·rw [decide_eq_false e,if_pos]
   refine Classical.byContradiction fun hc=>e (T8 hl fun i hi=> ?_)
   exact Classical.byContradiction fun hx=>hc ⟨i,by omega,hi,hx⟩
 ·rw [if_pos (by omega),decide_eq_false (fun e=>hl (by rw [e]))]
theorem A68 {xss:List (List Int)} {l:List Int} (h:xss.length≤LIM) (h1 : ∀r∈xss,r.length≤LIM) (h2:l.length≤LIM) (hm:l∈xss):Lk xss l=some true:=by
 have hL:=Ay
 unfold Lk
 have this:=Dn (body:=G4 xss l) (fun i=>(i:Int)) xss.length (fun i=>nth xss i=l) () () (fun i hi hx=>by
  unfold G4
  rw [if_pos (by omega),Af (by omega),Int.toNat_natCast,Atf (h1 _ (Az hi)) h2,decide_eq_false hx]
  simp only [Option.bind_some]
  rw [if_neg (by simp),Af (by unfold InI;omega)];rfl) (fun i hi hx=>by
  unfold G4
  rw [if_pos (by omega),Af (by omega),Int.toNat_natCast,Atf (h1 _ (Az hi)) h2,decide_eq_true hx]
  rfl) (by
  unfold G4
  rw [if_neg (by omega)]) 0 (by omega)
 refine (F2 this true false).trans ?_
 obtain ⟨i,hi,e⟩:=I9.1 hm
 rw [if_pos ⟨i,by omega,hi,e⟩]
theorem A2m {code:List Int} (hc : ∀x∈code,0≤x∧x≤255) (hl:code.length≤65536) {i:Nat} (hi:i≤100) : ∃x,Jy code (i:Int)=some x∧0≤x:=by
 unfold Jy
 by_cases h:(i:Int)<code.length
 ·rw [if_pos h,Af (by omega),Int.toNat_natCast]
  have hv:=hc _ (Az (show i<code.length by omega))
  refine ⟨_,rfl,?_⟩
  rw [show IntKind.i64.wrap (nth code i)=nth code i from ?_]
  ·exact hv.1
  ·exact Q8 (by omega) (by omega)
 ·rw [if_neg h,Af (by unfold InI;omega),Af (by unfold InI;omega)]
  exact ⟨_,rfl,Int.tmod_nonneg _ (by omega)⟩
theorem A04 {a b:SAlgebra} (ha:F8 a) (hb:F8 b) {f:List Int} (hl:f.length≤LIM) (h:Ko a b):Ng a b f=some (decide (Uz a b f),true):=by
 unfold Ng
 rw [Ad4 ha hb,show (decide (C5 a∧C5 b∧Dg a=Dg b))=true from decide_eq_true h]
 simp only [Option.bind_some,if_true]
 rw [A4y h hl]
 rfl
theorem Zz {α β:Type} {o:Option α} {a:α} {k:α→Option β} {r:Option β} (h:o=some a) (h2:k a=r):o.bind k=r:=by rw [h];exact h2
theorem Am4 {code:List Int} (h:code.length≤BIG ∧ ∀x∈code,0≤x∧x≤255):H9 code=some true:=by
 unfold H9 S6
 simp only [Option.bind_some]
 by_cases hbig:(code.length:Int)>65536
 ·rw [if_pos (by simpa using hbig)]
 rw [if_neg (by simpa using hbig)]
 have hL:=Ay
 obtain ⟨a,b,ed,ta,tb⟩:=Ap9 h.2 (by omega)
 obtain ⟨c,d,part,ed2,tc,td,hpart⟩:=Adx h.2 (by omega)
 have sa:=Hu ta
 have sb:=Hu tb
 have sc:=Hu tc
 have sd:=Hu td
 rw [ed]
 simp only [Option.bind_some]
 obtain ⟨i1,i2⟩:=Aqj sa sb
 obtain ⟨r1,r2⟩:=A0s (a:=a) (b:=b) false
 rw [i1]
 simp only [Option.bind_some]
 refine Zz (a:= .inl ()) ?_ ?_
 ·rw [i2]
  simp only [Option.bind_some,beq_self_eq_true,if_true]
  rw [Azg (by omega) (fun r hr=>by have:=r2 r hr;omega)]
  rfl
 dsimp only
 refine Zz (a:= .inr ()) ?_ ?_
 ·by_cases h0:((Lr a b false).1.length:Int)>0
  ·rw [if_pos h0]
   have ht:(Lr a b false).2=true:=Classical.byContradiction fun hc=>by
    rw [Ayq hc] at h0;simp at h0
   obtain ⟨hal,_,_,hall⟩:=Agz ht
   obtain ⟨x,ex,hx⟩:=A2m h.2 (by omega) (i:=2) (by omega)
   obtain ⟨y,ey,hy⟩:=A2m h.2 (by omega) (i:=3) (by omega)
   have ex':Jy code 2=some x:=ex
   have ey':Jy code 3=some y:=ey
   rw [ex',ey']
   simp only [Option.bind_some]
   have hb1:0≤x.tmod ((Lr a b false).1.length:Int):=Int.tmod_nonneg _ hx
   have hb2:x.tmod ((Lr a b false).1.length:Int)<((Lr a b false).1.length:Int):=Int.tmod_lt_of_pos _ h0
   rw [Af (by omega),Af ⟨hb1,hb2⟩]
   have hmem:=Az (show (x.tmod ((Lr a b false).1.length:Int)).toNat<(Lr a b false).1.length by omega)
   obtain ⟨f,ef⟩ : ∃f,f=nth (Lr a b false).1 (x.tmod ((Lr a b false).1.length:Int)).toNat:=⟨_,rfl⟩
   rw [←ef] at hmem
   have hf:=((hall f).1 hmem).1
   have hP:=O5 hal
   obtain ⟨hn,hn8,hm,hm8⟩:=hP.pos
   have hfl:f.length=a.Size.toNat:=by have:=hf.2.1.1;omega
   have hfm:Ce f b.Size.toNat:=by have:=hf.2.1.2;rw [hP.sb] at this;exact this
   rw [←ef,A04 sa sb (by omega) hal,decide_eq_true hf]
   simp only [Option.bind_some,if_true]
   have hrun:Al (C2 code (a,b) (Lr a b false) x) (0,Ao Int)=some (List.replicate f.length (-1)):=by
    have key:=C4 (body:=C2 code (a,b) (Lr a b false) x) (fun i=>((i:Int),List.replicate i (-1))) f.length (List.replicate f.length (-1)) (fun i hi=>by
     unfold C2
     dsimp only
     rw [←ef,if_pos (by omega),Af (by simp;omega),Af (by unfold InI;omega),←List.replicate_succ']
     rfl) (by
     unfold C2
     dsimp only
     rw [←ef,if_neg (by omega)])
    exact key
   rw [hrun]
   simp only [Option.bind_some]
   have hc1:0≤y.tmod (f.length:Int):=Int.tmod_nonneg _ hy
   have hc2:y.tmod (f.length:Int)<(f.length:Int):=Int.tmod_lt_of_pos _ (by omega)
   rw [Af (by omega),Af ⟨hc1,hc2⟩,Af ⟨hc1,by simpa using hc2⟩]
   obtain ⟨q,hq⟩ : ∃q:Nat,y.tmod (f.length:Int)=(q:Int):=⟨(y.tmod (f.length:Int)).toNat,by omega⟩
   rw [hq] at hc2 ⊢
   rw [Int.toNat_natCast]
   have hfq:=hfm _ (Az (show q<f.length by omega))
   have hok:okF a.Size.toNat b.Size.toNat ((List.replicate f.length (-1)).set q (nth f q)):=by
    have:=(Vo a.Size.toNat b.Size.toNat).set (i:=q) hfq
    rw [←hfl] at this ⊢
    exact this
   have hext:ext ((List.replicate f.length (-1)).set q (nth f q)) f:=fun z hz h1=>by
    simp only [List.length_set,List.length_replicate] at hz
    rw [Ld _ _ _ _ (by simpa using hz)] at h1 ⊢
    split
    ·rename_i e;rw [e]
    ·rename_i e
     rw [if_neg e,Uy _ hz] at h1
     omega
   obtain ⟨g,eg,hg⟩:=Ajs hP hok hf hext
   have hgl:=(Mf hP hok eg).1.1
   rw [(Ub sa sb (f:=(List.replicate f.length (-1)).set q (nth f q)) (by simp;omega)).1]
   have ecl:Ux a b ((List.replicate f.length (-1)).set q (nth f q))=(g,true):=by
    unfold Ux
    rw [if_pos ⟨hal,hok⟩,eg]
   rw [ecl]
   simp only [Option.bind_some,if_true]
   refine Zz (a:= .inr ()) ?_ ?_
   ·rw [if_neg (by omega)]
   dsimp only
   have t1:=C4 (body:=C0 code (a,b) (Lr a b false) x (g,true)) (fun i=>(i:Int)) f.length (.inr ()) (fun i hi=>by
    unfold C0
    dsimp only
    rw [←ef,if_pos (by omega),Af (by omega),Int.toNat_natCast]
    by_cases h1:nth g i≥0
    ·rw [if_pos h1,Af (by omega),Af (by omega),if_neg (by rw [hg i (by omega) h1];simp),Af (by unfold InI;omega)];rfl
    ·rw [if_neg h1,Af (by unfold InI;omega)];rfl) (by
    unfold C0
    dsimp only
    rw [←ef,if_neg (by omega)])
   have t1':Al (C0 code (a,b) (Lr a b false) x (g,true)) 0=some (.inr ()):=t1
   rw [t1']
   rfl
  ·rw [if_neg h0]
 dsimp only
 obtain ⟨j1,j2⟩:=Abd sa sb
 rw [j1]
 simp only [Option.bind_some]
 have vin : ∀emb onto,(Lr a b false).2=true→(Zy a b emb onto).2=true→Lk (Lr a b false).1 (Zy a b emb onto).1=some true:=by
  intro emb onto ht ho
  obtain ⟨_,_,_,hall⟩:=Agz ht
  exact A68 (by omega) (fun r hr=>by have:=r2 r hr;omega) (by have:=Alq (a:=a) (b:=b) emb onto;omega) ((hall _).2 ⟨(Azp ho).1,fun hc=>by cases hc⟩)
 refine Zz (a:= .inl ()) ?_ ?_
 ·rw [j2]
  simp only [Option.bind_some,beq_self_eq_true,if_true]
  rw [Aed (by have:=Alq (a:=a) (b:=b) true false;omega)]
  simp only [Option.bind_some,if_true]
  by_cases h1:(Lr a b false).2=true
  ·rw [if_pos h1]
   by_cases h2:(Zy a b true false).2=true
   ·rw [if_pos h2,vin true false h1 h2];rfl
   ·rw [if_neg h2]
  ·rw [if_neg h1]
 dsimp only
 obtain ⟨k1,k2⟩:=Ak2 sa sb
 rw [k1]
 simp only [Option.bind_some]
 refine Zz (a:= .inl ()) ?_ ?_
 ·rw [k2]
  simp only [Option.bind_some,beq_self_eq_true,if_true]
  rw [Aed (by have:=Alq (a:=a) (b:=b) false true;omega)]
  simp only [Option.bind_some,if_true]
  by_cases h1:(Lr a b false).2=true
  ·rw [if_pos h1]
   by_cases h2:(Zy a b false true).2=true
   ·rw [if_pos h2,vin false true h1 h2];rfl
   ·rw [if_neg h2]
  ·rw [if_neg h1]
 dsimp only
 rw [ed2]
 simp only [Option.bind_some]
 obtain ⟨l1,l2⟩:=Ub sc sd (f:=part) (by omega)
 rw [l1,l2]
 simp only [Option.bind_some,beq_self_eq_true,if_true]
 rw [Aed (by have:=Axh (a:=c) (b:=d) (f:=part);omega)]
 rfl
end Go.Proofs.Ytmkgjnphianalaa.Ax
