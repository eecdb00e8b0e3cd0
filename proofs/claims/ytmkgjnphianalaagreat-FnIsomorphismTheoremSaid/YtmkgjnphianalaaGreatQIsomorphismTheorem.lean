/-
 The law of the isomorphism theorem, on plain functions.
-/
import Derived.Test.YtmkgjnphianalaaGreatPB
import Derived.Test.YtmkgjnphianalaaGreatLIsomorphismTheorem
namespace Go.Proofs.YtmkgjnphianalaaGreat.Ax
open Go Classical
theorem Aeo {α β:Type} {o:Option α} {a:α} {k:α->Option β} {r:Option β} (h:o=some a) (h2:k a=r):o.bind k=r:=by rw [h];exact h2
theorem N1 {a:SAlgebra} (h:Ca a):Hg a:=by refine ⟨by have:=h.2.2.1;omega,λf hf=> ?_⟩;obtain ⟨i,hi,rfl⟩:=Cw.1 hf;obtain ⟨r,_,_,_,_,h512,_⟩:=(Ps h).op hi;omega
theorem A67 {code:List Int} (hc : ∀x∈code,0<=x/\x<=255) (hl:code.length<=65536) : ∃a sub p,Cp code=some (a,sub,p)/\Ab3 a/\sub.length<=21/\p.length<=10:=by unfold Cp;obtain ⟨a,d,e,hd,ha⟩:=Av0 (Bcg hc hl) (by omega);rw [e];simp only [obs0];obtain ⟨x,d2,e2,hd2,hx⟩:=A3o hd (by omega) ha;rw [e2];simp only [obs0];obtain ⟨y,d3,e3,_,hy⟩:=Ald hd2 (by omega) (Ac1 ha);rw [e3];exact ⟨_,_,_,rfl,ha,hx,hy⟩
theorem Aa3 {code:List Int} (h:code.length<=BIG /\ ∀x∈code,0<=x/\x<=255):Eg code=some true:=by
 unfold Eg Xq;simp only [obs0];by_cases hbig:(code.length:Int)>65536
 ·rw [ip0 (by simpa using hbig)]
 rw [in0 (by simpa using hbig)];have hL:=At;obtain ⟨a,sub,p,ed,ta,hsl,hpl⟩:=A67 h.2 (by omega);have sa:=Ac1 ta;rw [ed];simp only [obs0];rw [Au5 sa (by omega) (by omega)];simp only [obs0];have kl : ∀L:List Int,(Ge L).length=L.length:=λL=>by simp [Ge]
 have cl : ∀f g:List Int,(Am f g).length=f.length:=λf g=>by simp [Am]
 have hl1:(Auj a sub p).1.length<=1000:=by
  unfold Auj;split
  ·split
   ·simp
   ·split
    ·dsimp only;rw [kl,cl];omega
    ·simp
  ·simp
 have hl2:(Aug a sub p).1.length<=1000:=by
  unfold Aug;split
  ·rename_i hg;split
   ·have:=Cz a.Size.toNat λx=>decide (nth p x∈Am sub p)
    have:=(Ps hg.1).le;dsimp only;unfold Sf;omega
   ·simp
  ·simp
 have hl3:(As4 a sub p).1.length<=1000:=by
  unfold As4;split
  ·rename_i hg;split
   ·have:=Cz (lst a.Size.toNat p).length λz=>decide ((z:Int)∈Am sub (B6 a.Size.toNat p))
    have h2:(lst a.Size.toNat p).length<=a.Size.toNat:=Cz _ _;have:=(Ps hg.1).le;dsimp only;unfold Nh;omega
   ·simp
  ·simp
 have hsnd:(As4 a sub p).2=(Aug a sub p).2:=by
  unfold As4 Aug;split
  ·split<;>rfl
  ·rfl
 refine Aeo (a:= .inl ()) ?_ ?_
 ·rw [A5r sa (by omega) (by omega)];simp only [obs0,beq_self_eq_true,if_true];rw [Aik (by omega)];simp only [obs0,if_true]
 dsimp only;rw [A7x sa (by omega) (by omega)];simp only [obs0];refine Aeo (a:= .inl ()) ?_ ?_
 ·rw [A5w sa (by omega) (by omega)];simp only [obs0,beq_self_eq_true,if_true];rw [Aik (by omega)];simp only [obs0,if_true]
 dsimp only;rw [Avs sa (by omega) (by omega)];simp only [obs0];refine Aeo (a:= .inl ()) ?_ ?_
 ·rw [A6h sa (by omega) (by omega)];simp only [obs0,hsnd,beq_self_eq_true,if_true];rw [Aik (by omega)];simp only [obs0,if_true]
 dsimp only;by_cases hok:(Auj a sub p).2=true
 ·rw [ip0 hok];obtain ⟨hg,hc,h0,hs⟩:Ca a/\Ou a a.Size.toNat p/\sub≠[]/\Ei a a.Size.toNat sub:=by
   unfold Auj at hok;by_cases hgc:Ca a/\Ou a a.Size.toNat p
   ·rw [ip0 hgc] at hok;by_cases h0:sub=[]
    ·rw [ip0 h0] at hok;cases hok
    ·rw [in0 h0] at hok;by_cases hs:Ei a a.Size.toNat sub
     ·exact ⟨hgc.1,hgc.2,h0,hs⟩
     ·rw [in0 hs] at hok;cases hok
   ·rw [in0 hgc] at hok;cases hok
  have hr:=Ps hg;have hn8:=hr.le;have res : ∀X:List Int,X≠[]->Ei a a.Size.toNat X->Auj a X p=(Ge (Am X p),true):=λX hX0 hX=>by unfold Auj;rw [ip0 ⟨hg,hc⟩,in0 hX0,ip0 hX]
  have img : ∀X:List Int,Ei a a.Size.toNat X->As4 a X p=(Nh (lst a.Size.toNat p).length (Am X (B6 a.Size.toNat p)),true):=λX hX=>by unfold As4;rw [ip0 ⟨hg,hc⟩,ip0 hX]
  have sat:Aug a sub p=(Sf a.Size.toNat sub p,true):=by unfold Aug;rw [ip0 ⟨hg,hc⟩,ip0 hs]
  have hts:(lst a.Size.toNat p).length<=a.Size.toNat:=Cz _ _;obtain ⟨hS,hS0,hSs,hSi⟩:=Beq hr hc hs h0;obtain ⟨cr,hI,hI0,e,hiso,_⟩:=Ah6 hr hc hs h0;obtain ⟨cr2,_⟩:=Ah6 hr hc hS hS0;have hsame:=A8a hr hc hS hS0 hSs;obtain ⟨gb,_⟩:=Akd hr hs h0;obtain ⟨gb2,_⟩:=Akd hr hS hS0;obtain ⟨gq,_⟩:=Ake hg hr.sz hc;have ht0:0<(lst a.Size.toNat p).length:=Awi hc.1 hr.pos;have rq:ReadyA (Ts a a.Size.toNat p) (lst a.Size.toNat p).length:=⟨gq,rfl,ht0,by omega⟩
  obtain ⟨gd,_⟩:=Akd rq hI hI0;obtain ⟨gc,_⟩:=Ake gb rfl cr;have hSl:(Sf a.Size.toNat sub p).length<=a.Size.toNat:=Cz _ _;have hIl:(Nh (lst a.Size.toNat p).length (Am sub (B6 a.Size.toNat p))).length<=(lst a.Size.toNat p).length:=Cz _ _;rw [res sub h0 hs,sat,img sub hs];dsimp only;rw [Ahm sa hg hs h0];simp only [obs0];have e1:B4 (Sv a a.Size.toNat sub) (Ge (Am sub p))=some (Ts (Sv a a.Size.toNat sub) sub.length (Ge (Am sub p)),true):=Ahg (N1 gb) gb cr;rw [e1];simp only [obs0];rw [Ahg sa hg hc];simp only [obs0];have e2:C2 (Ts a a.Size.toNat p) (Nh (lst a.Size.toNat p).length (Am sub (B6 a.Size.toNat p)))=some (Sv (Ts a a.Size.toNat p) (lst a.Size.toNat p).length (Nh (lst a.Size.toNat p).length (Am sub (B6 a.Size.toNat p))),true):=Ahm (N1 gq) gq hI hI0;rw [e2];simp only [obs0];rw [Ag8 (N1 gc) (N1 gd)];simp only [obs0,if_true];refine Aeo (a:= .inl ()) ?_ ?_
  ·by_cases h5:(A6y (Ts (Sv a a.Size.toNat sub) sub.length (Ge (Am sub p))) (Sv (Ts a a.Size.toNat p) (lst a.Size.toNat p).length (Nh (lst a.Size.toNat p).length (Am sub (B6 a.Size.toNat p))))).2=true
   ·rw [ip0 h5,ip0 ((A53 h5).2 ⟨e,hiso⟩)]
   ·rw [in0 h5]
  dsimp only;rw [Ahm sa hg hS hS0];simp only [obs0];rw [Au5 sa (by omega) (by omega),res _ hS0 hS];simp only [obs0];have e3:B4 (Sv a a.Size.toNat (Sf a.Size.toNat sub p)) (Ge (Am (Sf a.Size.toNat sub p) p))=some (Ts (Sv a a.Size.toNat (Sf a.Size.toNat sub p)) (Sf a.Size.toNat sub p).length (Ge (Am (Sf a.Size.toNat sub p) p)),true):=Ahg (N1 gb2) gb2 cr2;rw [e3];simp only [obs0];rw [Avs sa (by omega) (by omega),img _ hS,hSi,hsame,hSi];simp only [obs0,if_true];rw [Aik (by omega)];simp only [obs0,if_true];rw [A2p (N1 gd)];rfl
 ·rw [in0 hok]
end Go.Proofs.YtmkgjnphianalaaGreat.Ax
