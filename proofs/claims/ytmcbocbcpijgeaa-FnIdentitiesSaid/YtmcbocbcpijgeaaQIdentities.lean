/-
 The law of identities, on plain functions.
-/
import Derived.Test.YtmcbocbcpijgeaaPB
import Derived.Test.YtmcbocbcpijgeaaLIdentities
namespace Go.Proofs.Ytmcbocbcpijgeaa.Ax
open Go Classical
theorem M6 {α β:Type} {o:Option α} {a:α} {k:α→Option β} {r:Option β} (h:o=some a) (h2:k a=r):o.bind k=r:=by rw [h];exact h2
theorem Ao8 {f g:SOp} (h:f.Arity=g.Arity) (_hf:f.Table.length≤LIM) (hg:g.Table.length≤LIM):Kp f g=some (decide (f.Table=g.Table)):=by
 have hL:=B5
 unfold Kp
 rw [if_pos h]
 unfold F5
 by_cases hl:f.Table.length=g.Table.length
 ·rw [if_neg (by omega)]
  have:=Kx (body:=Cd f.Table g.Table) (fun i=>(i:Int)) f.Table.length (fun i=>¬nth f.Table i=nth g.Table i) () () (fun i hi hb=>by
   unfold Cd
   have hb:=Classical.not_not.1 hb
   rw [if_pos (by omega),Ae (by omega),Ae (by omega),Int.toNat_natCast,if_neg (fun hh=>hh hb),Ae (by unfold InI;omega)];rfl) (fun i hi hb=>by
   unfold Cd
   rw [if_pos (by omega),Ae (by omega),Ae (by omega),Int.toNat_natCast,if_pos hb]) (by
   unfold Cd
   rw [if_neg (by omega)]) 0 (by omega)
  have h2:=Kk this false true
  refine M6 h2 ?_
  congr 1
  by_cases he:f.Table=g.Table
  ·rw [decide_eq_true he,if_neg]
   rintro ⟨i,_,hi,hb⟩
   exact hb (by rw [he])
  ·rw [decide_eq_false he,if_pos]
   refine Classical.byContradiction fun hh=>he (Tp hl fun i hi=>Classical.byContradiction fun hb=>hh ⟨i,by omega,hi,hb⟩)
 ·rw [if_pos (by omega),decide_eq_false (fun he=>hl (by rw [he]))]
  rfl
theorem Akb (a:SAlgebra) (_hg:a.Size.toNat≤8∨¬B8 a) (t:List Int):(Adf a t).1.Table.length≤512:=by
 unfold Adf
 split
 ·rename_i h
  show (Nt a t 3).length≤512
  rw [Xs]
  have:a.Size.toNat≤8:=by have:=h.1.2.1;omega
  exact Nat.pow_le_pow_left this 3
 ·simp
theorem Abx {code:List Int} (h:code.length≤BIG ∧ ∀x∈code,0≤x∧x≤255):Fn code=some true:=by
 unfold Fn Nu
 simp only [Option.bind_some]
 by_cases hbig:(code.length:Int)>65536
 ·rw [if_pos (by simpa using hbig)]
 rw [if_neg (by simpa using hbig)]
 have hL:=B5
 obtain ⟨a,e,ed,ha,hl41,hr41⟩:=Aed h.2 (by omega)
 obtain ⟨b,l,ed2,hb,hl30,hll⟩:=Yf h.2 (by omega)
 have hsa:=N3 ha
 have hsb:=N3 hb
 obtain ⟨d1,d2⟩:=Ii hsa (e:=e) (by omega)
 obtain ⟨f1,f2⟩:=W7 hsa (e:=e) (by omega)
 obtain ⟨t1,t2⟩:=Z0 hsa (t:=e.Left) (by omega)
 obtain ⟨t3,t4⟩:=Z0 hsa (t:=e.Right) (by omega)
 obtain ⟨b1,b2⟩:=Yk hsb (l:=l) (fun x hx=>by have:=hll x hx;omega)
 have tl1:=Akb a (Classical.or_iff_not_imp_right.2 fun hh=>by have:=(Classical.not_not.1 hh).2.1;omega) e.Left
 have tl2:=Akb a (Classical.or_iff_not_imp_right.2 fun hh=>by have:=(Classical.not_not.1 hh).2.1;omega) e.Right
 rw [ed]
 simp only [Option.bind_some]
 rw [d1,d2]
 simp only [Option.bind_some,beq_self_eq_true,if_true]
 rw [f1,f2]
 simp only [Option.bind_some,beq_self_eq_true,if_true]
 rw [Ar9 (by have:=Ar7 (a:=a) (e:=e);omega)]
 simp only [Option.bind_some,if_true]
 refine M6 (a:= .inl ()) ?_ ?_
 ·rw [Arj]
  cases (dhR a e).2<;>cases (dhR a e).1<;>rfl
 dsimp only
 refine M6 (a:= .inr ()) ?_ ?_
 ·by_cases hf:(fcR a e).2=true
  ·rw [if_pos hf]
   obtain ⟨hok,i,hi,hbad⟩:=Arn hf
   obtain ⟨hg,hl,hr,_⟩:=hok
   rw [hi,Xx hsa hg hl (by rw [Ij];exact Wy) (Q9 hg i) (fun x hx=>by
    by_cases h0:0≤x
    ·exact Ie hl (fun x hx=>by simp [hx]) i x hx h0
    ·omega),Xx hsa hg hr (by rw [Ij];exact Wy) (Q9 hg i) (fun x hx=>by
    by_cases h0:0≤x
    ·exact Ie hr (fun x hx=>by simp [hx]) i x hx h0
    ·omega)]
   simp only [Option.bind_some,if_true]
   rw [if_neg hbad]
  ·rw [if_neg hf]
 dsimp only
 rw [t1,t2,t3]
 simp only [Option.bind_some,beq_self_eq_true,if_true]
 refine M6 (a:= .inl ()) ?_ ?_
 ·rw [Ao8 rfl (by omega) (by omega),decide_eq_true rfl]
  rfl
 dsimp only
 refine M6 (a:= .inl ()) ?_ ?_
 ·by_cases hd:(dhR a e).2=true
  ·rw [if_pos hd]
   have hok:okI a e:=Classical.byContradiction fun hh=>by rw [Apv hh] at hd;cases hd
   by_cases h1:(Adf a e.Left).2=true
   ·rw [if_pos h1]
    have g1:B8 a∧isT a e.Left ∧ ∀x∈e.Left,x<(3:Int):=Classical.byContradiction fun hh=>by
     have:Adf a e.Left=({ Arity:=0,Table:=[] },false):=if_neg hh
     rw [this] at h1;cases h1
    by_cases h2:(Adf a e.Right).2=true
    ·rw [if_pos h2]
     have g2:B8 a∧isT a e.Right ∧ ∀x∈e.Right,x<(3:Int):=Classical.byContradiction fun hh=>by
      have:Adf a e.Right=({ Arity:=0,Table:=[] },false):=if_neg hh
      rw [this] at h2;cases h2
     have q1:Adf a e.Left=({ Arity:=3,Table:=Nt a e.Left 3 },true):=if_pos g1
     have q2:Adf a e.Right=({ Arity:=3,Table:=Nt a e.Right 3 },true):=if_pos g2
     rw [Ao8 (by rw [q1,q2]) (by omega) (by omega)]
     simp only [Option.bind_some]
     rw [Ac1 hok,q1,q2]
     have:=Aqj (e:=e) g1.1 g1.2.1 g2.2.1 g1.2.2 g2.2.2
     simp only [this,beq_self_eq_true,if_true]
    ·rw [if_neg h2]
   ·rw [if_neg h1]
  ·rw [if_neg hd]
 dsimp only
 rw [ed2]
 simp only [Option.bind_some]
 rw [b1,b2]
 simp only [Option.bind_some]
 refine M6 (a:= .inr ()) ?_ ?_
 ·rw [if_neg (by simp)]
  simp
 dsimp only
 refine M6 (a:= .inr ()) ?_ rfl
 by_cases hok:B8 b∧l.length≤20 ∧ ∀e∈l,okI b e
 ·have okn : ∀i,i<l.length→okI b (nth l i):=fun i hi=>hok.2.2 _ (Bk hi)
  have dh : ∀i,i<l.length→Dv b (nth l i)=some (decide (Ed b (nth l i)),true):=fun i hi=>by
   rw [(Ii hsb (by have:=hll _ (Bk hi);omega)).1,Ac1 (okn i hi)]
  have e1:fbR b l=(if h : ∃i,i<l.length∧¬Ed b (nth l i) ∧ ∀j,j<i→Ed b (nth l j) then ((Classical.choose h:Nat):Int) else -1,true):=if_pos hok
  have fact : ∃n:Int,fbR b l=(n,true)∧((n<0 ∧ ∀i,i<l.length→Ed b (nth l i)) ∨ ∃m:Nat,n=(m:Int)∧m<l.length∧¬Ed b (nth l m) ∧ ∀j,j<m→Ed b (nth l j)):=by
   rcases Aqw (a:=b) l with hx | hn
   ·rw [dif_pos hx] at e1
    exact ⟨_,e1,.inr ⟨_,rfl,Classical.choose_spec hx⟩⟩
   ·have hx:¬ ∃i,i<l.length∧¬Ed b (nth l i) ∧ ∀j,j<i→Ed b (nth l j):=fun ⟨i,h1,h2,_⟩=>h2 (hn i h1)
    rw [dif_neg hx] at e1
    exact ⟨_,e1,.inl ⟨by decide,hn⟩⟩
  obtain ⟨n,en,hn⟩:=fact
  rw [en]
  refine Bq (body:=Ca (b,l) (n,true)) (fun i=>(i:Int)) l.length (.inr ()) (fun i hi=> ?_) ?_
  ·unfold Ca
   dsimp only
   rw [if_pos (by omega)]
   simp only [if_true,Option.bind_some]
   rw [Ae (by omega),Int.toNat_natCast,dh i hi]
   simp only [Option.bind_some,if_true]
   have nx:ask (InI ((i:Int)+1)) (some (Sum.inl ((i:Int)+1)):Option (Int ⊕ (Unit ⊕ Unit)))=some (.inl ((i+1:Nat):Int)):=by rw [Ae (by unfold InI;omega)];rfl
   rcases hn with ⟨hn0,hall⟩ | ⟨m,rfl,hm,hm2,hm3⟩
   ·rw [if_pos hn0,decide_eq_true (hall i hi),if_pos rfl,if_neg (by omega)]
    exact nx
   ·rw [if_neg (by omega)]
    by_cases him:i<m
    ·rw [if_pos (by omega),decide_eq_true (hm3 i him),if_pos rfl,if_neg (by omega)]
     exact nx
    ·rw [if_neg (by omega)]
     by_cases hie:i=m
     ·subst hie
      rw [if_pos rfl,decide_eq_false hm2,if_neg (by simp)]
      exact nx
     ·rw [if_neg (by omega)]
      exact nx
  ·unfold Ca
   dsimp only
   rw [if_neg (by omega)]
   rfl
 ·have e1:fbR b l=(0,false):=if_neg hok
  rw [e1]
  refine Ck ?_
  unfold Ca
  dsimp only
  by_cases h0:(0:Int)<(l.length:Int)
  ·rw [if_pos h0];rfl
  ·rw [if_neg h0];rfl
end Go.Proofs.Ytmcbocbcpijgeaa.Ax
