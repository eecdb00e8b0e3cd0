/-
 What the functions compute, as functions on plain data, and that the program does compute it; written by program.
-/
import Derived.Test.YtpfikenknmlajaaCode
import Derived.Test.YtpfikenknmlajaaG4
import Derived.Test.YtpfikenknmlajaaG6
import Derived.Test.YtpfikenknmlajaaG10
import Derived.Test.YtpfikenknmlajaaG13
namespace Go.Proofs.Ytpfikenknmlajaa.Ax
open Go
set_option maxRecDepth 100000
set_option maxHeartbeats 4000000
noncomputable def Fu (r1:Int) (x5:Int):(Int×(List (Int×Int))×Sl1Cur)→Option ((Int×(List (Int×Int))×Sl1Cur) ⊕ ((List (Int×Int))×Sl1Cur)):=fun (x6,x4',x147')=>
 if x6<r1 then
 (Dw (x147') ((3:Int))).bind fun (r6,u7)=>
 if (r6)=true then
 ask ((x4').length+([(x5,x6)]).length≤LIM) <|
 ask (InI (x6+(1:Int))) <|
 some (.inl (x6+(1:Int),x4'++[(x5,x6)],u7))
 else
 ask (InI (x6+(1:Int))) <|
 some (.inl (x6+(1:Int),x4',u7))
 else
 some (.inr (x4',x147'))
def Kj (r1:Int) (x5:Int):(Int×(List (Int×Int))×Sl1Cur)→St:=fun s=>[(6,A.val (Af s.1)),(5,A.val (Af (x5))),(4,A.val ((slr true 2 (rA2 Af)) s.2.1)),(3,A.val (Af (r1))),(2,A.val ((rP true (Ag true)) ({ Below:=Ar (List Int) }))),(0,A.ref 147 []),(147,A.val ((rP true (At false)) s.2.2))]
def Qk (r1:Int) (x5:Int):((List (Int×Int))×Sl1Cur)→Tgt
 | s=>((Ex.exit 2),[5,4,3,2,0,147],[(5,A.val (Af (x5))),(4,A.val ((slr true 2 (rA2 Af)) s.1)),(3,A.val (Af (r1))),(2,A.val ((rP true (Ag true)) ({ Below:=Ar (List Int) }))),(0,A.ref 147 []),(147,A.val ((rP true (At false)) s.2))])
theorem Abn {r1:Int} {x5:Int} (s:(Int×(List (Int×Int))×Sl1Cur)) (o:(Int×(List (Int×Int))×Sl1Cur) ⊕ ((List (Int×Int))×Sl1Cur)) (h:Fu r1 x5 s=some o):vc Try.prog Ql (Cc [6,5,4,3,2,0,147] (Kj r1 x5) (Qk r1 x5) o) (Kj r1 x5 s):=by
 obtain ⟨x6,x4',x147'⟩:=s
 unfold Fu at h
 try dsimp only at h
 refine Br.od h (fun p5 h=> ?_) (fun p5 h=> ?_)
 ·refine CallQ.io V.bool (rP true (At false)) (by rfl) rfl (fun _=>rfl) (fun _=>⟨rfl,rfl⟩) rfl h (fun r h=>Qz h) (fun r6 u7 h=> ?_)
  refine Br.ob h (fun p8 h=> ?_) (fun p8 h=> ?_)
  ·refine BslQ.o (rA2 Af) ([(x5,x6)]) (by exact fun _=>⟨rfl,rfl⟩) (by first | rfl | (simp only [Aa,V.fz,fzL,V.up,upL,Ab,Ac,Ad,slr,List.cons_append,List.nil_append];done) | simp [Aa,V.fz,fzL,V.up,upL,Ab,Ac,Ad,slr])<|NoOwn.o (fun _=>rfl)<|AppQ.o (m:=2) (rA2 Af) (by exact fun _=>⟨rfl,rfl⟩) (x4') ([(x5,x6)]) (by rfl) (by rfl) h fun h=>Ask.o h fun p9 h=> ?_
   cases h;exact ⟨rfl,rfl⟩
  refine Ask.o h fun p10 h=> ?_
  cases h;exact ⟨rfl,rfl⟩
 cases h;exact ⟨rfl,rfl⟩
noncomputable def Fv (r1:Int):(Int×(List (Int×Int))×Sl1Cur)→Option ((Int×(List (Int×Int))×Sl1Cur) ⊕ ((List (Int×Int))×Sl1Cur)):=fun (x5,x4,x147)=>
 if x5<r1 then
 ask (InI (x5+(1:Int))) <|
 (Aj (Fu r1 x5) (x5+(1:Int),x4,x147)).bind fun (q11_4,q11_147)=>
 ask (InI (x5+(1:Int))) <|
 some (.inl (x5+(1:Int),q11_4,q11_147))
 else
 some (.inr (x4,x147))
def Kc (r1:Int):(Int×(List (Int×Int))×Sl1Cur)→St:=fun s=>[(5,A.val (Af s.1)),(4,A.val ((slr true 2 (rA2 Af)) s.2.1)),(3,A.val (Af (r1))),(2,A.val ((rP true (Ag true)) ({ Below:=Ar (List Int) }))),(0,A.ref 147 []),(147,A.val ((rP true (At false)) s.2.2))]
def Qe (r1:Int):((List (Int×Int))×Sl1Cur)→Tgt
 | s=>((Ex.exit 0),[4,3,2,0,147],[(4,A.val ((slr true 2 (rA2 Af)) s.1)),(3,A.val (Af (r1))),(2,A.val ((rP true (Ag true)) ({ Below:=Ar (List Int) }))),(0,A.ref 147 []),(147,A.val ((rP true (At false)) s.2))])
theorem Abl {r1:Int} (s:(Int×(List (Int×Int))×Sl1Cur)) (o:(Int×(List (Int×Int))×Sl1Cur) ⊕ ((List (Int×Int))×Sl1Cur)) (h:Fv r1 s=some o):vc Try.prog Qn (Cc [5,4,3,2,0,147] (Kc r1) (Qe r1) o) (Kc r1 s):=by
 obtain ⟨x5,x4,x147⟩:=s
 unfold Fv at h
 try dsimp only at h
 refine Br.od h (fun p3 h=> ?_) (fun p3 h=> ?_)
 ·refine Ask.o h fun p4 h=>LoopQ.o [6,5,4,3,2,0,147] (Kj r1 x5) (Qk r1 x5) h (fun s o h=>Abn s o h) (by rfl) (fun _=>rfl) ?_
  rintro ⟨q11_4,q11_147⟩ h
  try dsimp only at h
  refine Ask.o h fun p12 h=> ?_
  cases h;exact ⟨rfl,rfl⟩
 cases h;exact ⟨rfl,rfl⟩
noncomputable def D7 (_r1:Int) (r14:List Int) (_q20_147:Sl1Cur):(Int×(List (Int×Int)))→Option ((Int×(List (Int×Int))) ⊕ (List (Int×Int))):=fun (x8,x4)=>
 if x8<(↑x4.length:Int) then
 ask ((0:Int)≤x8∧x8<(↑x4.length:Int)) <|
 ask ((0:Int)≤(nth x4 x8.toNat).fst∧(nth x4 x8.toNat).fst<(↑r14.length:Int)) <|
 ask ((0:Int)≤x8∧x8<(↑x4.length:Int)) <|
 ask ((0:Int)≤(nth x4 x8.toNat).snd∧(nth x4 x8.toNat).snd<(↑r14.length:Int)) <|
 ask ((0:Int)≤x8∧x8<(↑x4.length:Int)) <|
 ask (InI (x8+(1:Int))) <|
 some (.inl (x8+(1:Int),x4.set x8.toNat (nth r14 (nth x4 x8.toNat).fst.toNat,nth r14 (nth x4 x8.toNat).snd.toNat)))
 else
 some (.inr x4)
def Kh (r1:Int) (r14:List Int) (q20_147:Sl1Cur):(Int×(List (Int×Int)))→St:=fun s=>[(8,A.val (Af s.1)),(7,A.val ((slr true 1 Af) (r14))),(4,A.val ((slr true 2 (rA2 Af)) s.2)),(3,A.val (Af (r1))),(2,A.val ((rP true (Ag true)) ({ Below:=Ar (List Int) }))),(0,A.ref 147 []),(147,A.val ((rP true (At false)) (q20_147)))]
def Qr (r1:Int) (_r14:List Int) (q20_147:Sl1Cur):(List (Int×Int))→Tgt
 | s=>((Ex.exit 4),[4,3,2,0,147],[(4,A.val ((slr true 2 (rA2 Af)) s)),(3,A.val (Af (r1))),(2,A.val ((rP true (Ag true)) ({ Below:=Ar (List Int) }))),(0,A.ref 147 []),(147,A.val ((rP true (At false)) (q20_147)))])
theorem Abs {r1:Int} {r14:List Int} {q20_147:Sl1Cur} (s:(Int×(List (Int×Int)))) (o:(Int×(List (Int×Int))) ⊕ (List (Int×Int))) (h:D7 r1 r14 q20_147 s=some o):vc Try.prog Qg (Cc [8,7,4,3,2,0,147] (Kh r1 r14 q20_147) (Qr r1 r14 q20_147) o) (Kh r1 r14 q20_147 s):=by
 obtain ⟨x8,x4⟩:=s
 unfold D7 at h
 try dsimp only at h
 refine Len.map<|Br.od h (fun p22 h=> ?_) (fun p22 h=> ?_)
 ·refine Len.map<|Ask.o h fun p23 h=>Ask.mk (by decide)<|Idx.lit<|Cells.wide (by exact fun _=>⟨rfl,rfl⟩) (by first | omega | (simp [Ak] at * <;> omega)) (by decide)<|Len.map<|Ask.o h fun p24 h=>Cells.one (fun _=>⟨rfl,rfl⟩) (by first | omega | (simp [Ak] at * <;> omega))<|Len.map<|Ask.o h fun p25 h=>Ask.mk (by decide)<|Idx.lit<|Cells.wide (by exact fun _=>⟨rfl,rfl⟩) (by first | omega | (simp [Ak] at * <;> omega)) (by decide)<|Len.map<|Ask.o h fun p26 h=>Cells.one (fun _=>⟨rfl,rfl⟩) (by first | omega | (simp [Ak] at * <;> omega))<|Len.map<|Ask.o h fun p27 h=>SetKids.wide0 (by exact fun _=>⟨rfl,rfl⟩) ((nth r14 (nth x4 x8.toNat).fst.toNat,nth r14 (nth x4 x8.toNat).snd.toNat)) (by first | omega | (simp [Ak] at * <;> omega)) (by rfl) (by decide)<|Ask.o h fun p28 h=> ?_
  cases h;exact ⟨rfl,rfl⟩
 cases h;exact ⟨rfl,rfl⟩
noncomputable def Fw:(SPoset×Sl1Cur)→Option ((SPoset×Sl1Cur) ⊕ (SPoset×Sl1Cur)):=fun (x9,x147)=>
 (Bp (x147) ((2:Int))).bind fun (r56,u57)=>
 ask (InI ((10:Int)+r56)) <|
 if (↑x9.Below.length:Int)<(10:Int)+r56 then
 ask ((x9.Below).length+([[(↑x9.Below.length:Int)]]).length≤LIM) <|
 some (.inl ({ Below:=x9.Below++[[(↑x9.Below.length:Int)]] },u57))
 else
 some (.inr (x9,u57))
def Kd:(SPoset×Sl1Cur)→St:=fun s=>[(9,A.val ((rP true (Ag true)) s.1)),(2,A.val ((rP true (Ag true)) ({ Below:=Ar (List Int) }))),(0,A.ref 147 []),(147,A.val ((rP true (At false)) s.2))]
def Qp:(SPoset×Sl1Cur)→Tgt
 | s=>((Ex.exit 7),[9,2,147],[(9,A.val ((rP true (Ag true)) s.1)),(2,A.val ((rP true (Ag true)) ({ Below:=Ar (List Int) }))),(147,A.val ((rP true (At false)) s.2))])
theorem Abq (s:(SPoset×Sl1Cur)) (o:(SPoset×Sl1Cur) ⊕ (SPoset×Sl1Cur)) (h:Fw s=some o):vc Try.prog Qi (Cc [9,2,0,147] (Kd) (Qp) o) (Kd s):=by
 obtain ⟨x9,x147⟩:=s
 unfold Fw at h
 try dsimp only at h
 refine Cells.lit rfl rfl<|Kid.lit rfl rfl<|Len.map<|LendP.io Af (rP true (At false)) (by rfl) (fun _=>rfl) (fun _=>⟨rfl,rfl⟩) (fun _=>rfl) h (fun r h=>Dc h) (fun r56 u57 h=> ?_)
 refine Ask.o h fun p58 h=>Br.od h (fun p59 h=> ?_) (fun p59 h=> ?_)
 ·refine Cells.lit rfl rfl<|Cells.lit rfl rfl<|Kid.lit rfl rfl<|Len.map<|BslQ.o Af ([(↑x9.Below.length:Int)]) (by exact fun _=>⟨rfl,rfl⟩) (by first | rfl | (simp only [Aa,V.fz,fzL,V.up,upL,Ab,Ac,Ad,slr,List.cons_append,List.nil_append];done) | simp [Aa,V.fz,fzL,V.up,upL,Ab,Ac,Ad,slr])<|BslQ.o (slr true 1 Af) ([[(↑x9.Below.length:Int)]]) (by exact fun _=>⟨rfl,rfl⟩) (by first | rfl | (simp only [Aa,V.fz,fzL,V.up,upL,Ab,Ac,Ad,slr,List.cons_append,List.nil_append];done) | simp [Aa,V.fz,fzL,V.up,upL,Ab,Ac,Ad,slr])<|NoOwn.own rfl<|Kid.lit rfl rfl<|Kid.lit rfl rfl<|SetKids.lit rfl<|AppQ.o (m:=1) (slr true 1 Af) (by exact fun _=>⟨rfl,rfl⟩) (x9.Below) ([[(↑x9.Below.length:Int)]]) (by rfl) (by rfl) h fun h=>SetKids.lit rfl ?_
  cases h;exact ⟨rfl,rfl⟩
 cases h;exact ⟨rfl,rfl⟩
noncomputable def Hj (c0:Sl1Cur):Option (SPoset×Sl1Cur):=
 (F5 (c0) ([(0:Int),(1:Int),(2:Int),(3:Int),(4:Int),(4:Int),(5:Int),(5:Int),(6:Int),(7:Int)])).bind fun (r1,u2)=>
 (Aj (Fv r1) ((0:Int),Ar (Int×Int),u2)).bind fun (q13_4,q13_147)=>
 (((Fi (q13_147) (r1)).bind fun (r14,u15)=>
 (((J6 (r14) (r1)).bind fun r16=>
 if (r16)=true then
 (Dw (u15) ((2:Int))).bind fun (r18,u19)=>
 some (r18,u19)
 else
 some (false,u15):Option (Bool×Sl1Cur))).bind fun (q20_44,q20_147)=>
 if (q20_44)=true then
 (Aj (D7 r1 r14 q20_147) ((0:Int),q13_4)).bind fun q29_4=>
 some (q29_4,q20_147)
 else
 some (q13_4,q20_147):Option ((List (Int×Int))×Sl1Cur))).bind fun (q30_4,q30_147)=>
 (Iq (r1) (q30_4)).bind fun r31=>
 ((if r1=(0:Int) then
 some (.inl q30_147)
 else
 (Dw (q30_147) ((16:Int))).bind fun (r33,u34)=>
 if (r33)=true then
 some (.inr u34)
 else
 some (.inl u34):Option (Sl1Cur ⊕ Sl1Cur))).bind fun t=>match t with
 | (.inl q36_147)=>(some (r31,q36_147))
 | (.inr q36_147)=>((Bp (q36_147) (r1)).bind fun (r37,u38)=>
 (Bp (u38) ((4:Int))).bind fun (r39,u40)=>
 if r39=(0:Int) then
 ask ((0:Int)≤r37∧r37<(↑r31.Below.length:Int)) <|
 ask (0≤(1:Int)∧(1:Int)≤(↑(nth r31.Below r37.toNat).length:Int)∧(↑(nth r31.Below r37.toNat).length:Int)≤(((nth r31.Below r37.toNat).length:Nat):Int)) <|
 ask ((0:Int)≤r37∧r37<(↑r31.Below.length:Int)) <|
 some ({ Below:=r31.Below.set r37.toNat (List.take ((↑(nth r31.Below r37.toNat).length:Int).toNat-Int.toNat (1:Int)) (List.drop (Int.toNat (1:Int)) (nth r31.Below r37.toNat))) },u40)
 else
 if r39=(1:Int) then
 ask ((0:Int)≤r37∧r37<(↑r31.Below.length:Int)) <|
 ask ((0:Int)≤r37∧r37<(↑r31.Below.length:Int)) <|
 ask ((0:Int)≤r37∧r37<(↑r31.Below.length:Int)) <|
 ask ((nth r31.Below r37.toNat).length+([r1]).length≤LIM) <|
 ask ((0:Int)≤r37∧r37<(↑r31.Below.length:Int)) <|
 some ({ Below:=r31.Below.set r37.toNat (nth r31.Below r37.toNat++[r1]) },u40)
 else
 if r39=(2:Int) then
 ask ((0:Int)≤r37∧r37<(↑r31.Below.length:Int)) <|
 (Bp (u40) (r1)).bind fun (r51,u52)=>
 (On (nth r31.Below r37.toNat) (r51)).bind fun r53=>
 ask ((0:Int)≤r37∧r37<(↑r31.Below.length:Int)) <|
 some ({ Below:=r31.Below.set r37.toNat r53 },u52)
 else
 if r39=(3:Int) then
 (Aj (Fw) (r31,u40)).bind fun (q60_9,q60_147)=>
 some (q60_9,q60_147)
 else
 some (r31,u40))
theorem Afy {c0:Sl1Cur} {v:(SPoset×Sl1Cur)} (h:Hj c0=some v):Aey Try.prog Nd [(rP true (At false)) c0] ((Ag false) v.1) 0 ((rP true (At false)) v.2):=by
 refine A10 Afr (Nat.le_of_ble_eq_true rfl) ?_
 unfold Hj at h
 refine BslQ.o Af ([(0:Int),(1:Int),(2:Int),(3:Int),(4:Int),(4:Int),(5:Int),(5:Int),(6:Int),(7:Int)]) (by exact fun _=>⟨rfl,rfl⟩) (by first | rfl | (simp only [Aa,V.fz,fzL,V.up,upL,Ab,Ac,Ad,slr,List.cons_append,List.nil_append];done) | simp [Aa,V.fz,fzL,V.up,upL,Ab,Ac,Ad,slr])<|CallQ.io Af (rP true (At false)) (by first | rfl | (simp only [Aa,Gp,V.fz,fzL,Ab,Ac,slr];done) | simp [Aa,Gp,V.fz,fzL,V.up,upL,Ab,Ac,Ad,slr]) rfl (fun _=>rfl) (fun _=>⟨rfl,rfl⟩) rfl h (fun r h=>Ug h) (fun r1 u2 h=> ?_)
 refine BslQ.o (rA2 Af) (Ar (Int×Int)) (by exact fun _=>⟨rfl,rfl⟩) (by first | rfl | (simp only [Aa,V.fz,fzL,V.up,upL,Ab,Ac,Ad,slr,List.cons_append,List.nil_append];done) | simp [Aa,V.fz,fzL,V.up,upL,Ab,Ac,Ad,slr])<|LoopQ.o [5,4,3,2,0,147] (Kc r1) (Qe r1) h (fun s o h=>Abl s o h) (by rfl) (fun _=>rfl) ?_
 rintro ⟨q13_4,q13_147⟩ h
 try dsimp only at h
 refine CutQ.o (fun t:((List (Int×Int))×Sl1Cur)=>match t with | s=>(Ex.normal,[4,3,2,0,147],[(4,A.val ((slr true 2 (rA2 Af)) s.1)),(3,A.val (Af (r1))),(2,A.val ((rP true (Ag true)) ({ Below:=Ar (List Int) }))),(0,A.ref 147 []),(147,A.val ((rP true (At false)) s.2))])) h ?_ ?_
 ·intro t h
  refine CallQ.io (slr true 1 Af) (rP true (At false)) (by rfl) rfl (fun _=>rfl) (fun _=>⟨rfl,rfl⟩) rfl h (fun r h=>Adq h) (fun r14 u15 h=> ?_)
  refine CutQ.o (fun t:(Bool×Sl1Cur)=>match t with | s=>(Ex.normal,[44,7,4,3,2,0,147],[(44,A.val (V.bool s.1)),(7,A.val ((slr true 1 Af) (r14))),(4,A.val ((slr true 2 (rA2 Af)) (q13_4))),(3,A.val (Af (r1))),(2,A.val ((rP true (Ag true)) ({ Below:=Ar (List Int) }))),(0,A.ref 147 []),(147,A.val ((rP true (At false)) s.2))])) h ?_ ?_
  ·intro t h
   refine CallQ.rd V.bool (by first | rfl | simp only [V.fz,V.up,Ab,Ad,slr] | simp [Aa,V.fz,fzL,V.up,upL,Ab,Ac,Ad,slr]) (fun _=>rfl) h (fun r h=>Aq2 h) (fun r16 h=> ?_)
   refine Br.ob h (fun p17 h=> ?_) (fun p17 h=> ?_)
   ·refine Br.yes<|CallQ.io V.bool (rP true (At false)) (by rfl) rfl (fun _=>rfl) (fun _=>⟨rfl,rfl⟩) rfl h (fun r h=>Qz h) (fun r18 u19 h=> ?_)
    refine Br.yes ?_
    cases h;exact ⟨rfl,rfl⟩
   refine Br.no<|Br.no ?_
   cases h;exact ⟨rfl,rfl⟩
  rintro ⟨q20_44,q20_147⟩ h
  try dsimp only at h
  refine Br.ob h (fun p21 h=> ?_) (fun p21 h=> ?_)
  ·refine LoopQ.o [8,7,4,3,2,0,147] (Kh r1 r14 q20_147) (Qr r1 r14 q20_147) h (fun s o h=>Abs s o h) (by rfl) (fun _=>rfl) ?_
   rintro q29_4 h
   try dsimp only at h
   cases h;exact ⟨rfl,rfl⟩
  cases h;exact ⟨rfl,rfl⟩
 rintro ⟨q30_4,q30_147⟩ h
 try dsimp only at h
 refine CallQ.rd (Ag true) (by first | rfl | simp only [V.fz,V.up,Ab,Ad,slr] | simp [Aa,V.fz,fzL,V.up,upL,Ab,Ac,Ad,slr]) (fun _=>by simp [V.noFz,Ct,Cu]) h (fun r h=>Am7 h) (fun r31 h=> ?_)
 refine SetKids.lit rfl<|CutQ.o (fun t:(Sl1Cur ⊕ Sl1Cur)=>match t with | (.inl s)=>(Ex.ret,[2,147],[(2,A.val ((rP true (Ag true)) (r31))),(147,A.val ((rP true (At false)) s))]) | (.inr s)=>(Ex.normal,[9,3,2,0,147],[(9,A.val ((rP true (Ag true)) (r31))),(3,A.val (Af (r1))),(2,A.val ((rP true (Ag true)) ({ Below:=Ar (List Int) }))),(0,A.ref 147 []),(147,A.val ((rP true (At false)) s))])) h ?_ ?_
 ·intro t h
  refine Br.oe h (fun p32 h=> ?_) (fun p32 h=> ?_)
  ·refine Br.yes<|Br.yes<|Br.yes<|Br.yes<|Cells.lit rfl rfl<|SetKids.lit rfl ?_
   cases h;exact ⟨rfl,rfl⟩
  refine Br.no<|CallQ.io V.bool (rP true (At false)) (by rfl) rfl (fun _=>rfl) (fun _=>⟨rfl,rfl⟩) rfl h (fun r h=>Qz h) (fun r33 u34 h=> ?_)
  refine Br.no<|Br.no<|Br.flip<|Br.ob h (fun p35 h=> ?_) (fun p35 h=> ?_)
  ·cases h;exact ⟨rfl,rfl⟩
  refine Cells.lit rfl rfl<|SetKids.lit rfl ?_
  cases h;exact ⟨rfl,rfl⟩
 rintro (q36_147 | q36_147) h
 ·try dsimp only at h
  cases h;exact ⟨(by first | rfl | simp only [Ai,V.fz,fzL,Ab,slr] | simp [Ai,Aa,V.fz,fzL,V.up,upL,Ab,Ac,Ad,slr]),(by rfl)⟩
 try dsimp only at h
 refine CallQ.io Af (rP true (At false)) (by rfl) rfl (fun _=>rfl) (fun _=>⟨rfl,rfl⟩) rfl h (fun r h=>Dc h) (fun r37 u38 h=> ?_)
 refine CallQ.io Af (rP true (At false)) (by rfl) rfl (fun _=>rfl) (fun _=>⟨rfl,rfl⟩) rfl h (fun r h=>Dc h) (fun r39 u40 h=> ?_)
 refine Br.oe h (fun p41 h=> ?_) (fun p41 h=> ?_)
 ·refine FrzQ.d (V.ptr true (V.agg [V.sl true (1:Nat) (List.map (slr false (1:Nat) Af) r31.Below)])) (by first | (simp only [V.fzAt,Dz,Q7,Ab];done) | exact Eq.trans (b:=V.ptr true (V.agg [V.sl true (1:Nat) (List.map (slr false (1:Nat) Af) r31.Below)])) rfl (by simp only [Ac]))<|Cells.lit rfl rfl<|Cells.lit rfl rfl<|Kid.lit rfl rfl<|Len.map<|Ask.o h fun p42 h=>Kid.lit rfl rfl<|Cells.one (fun _=>⟨rfl,rfl⟩) (by first | omega | (simp [Ak] at * <;> omega))<|Len.map<|SlcQ.o Af h fun h=>Kid.lit rfl rfl<|Len.map<|Ask.o h fun p43 h=>Kid.lit rfl rfl<|SetKids.one (fun _=>⟨rfl,rfl⟩) (List.take ((↑(nth r31.Below r37.toNat).length:Int).toNat-Int.toNat (1:Int)) (List.drop (Int.toNat (1:Int)) (nth r31.Below r37.toNat))) (by rfl) (by first | omega | (simp [Ak] at * <;> omega))<|Kid.lit rfl rfl<|SetKids.lit rfl<|Cells.lit rfl rfl<|SetKids.lit rfl ?_
  cases h;exact ⟨(by first | rfl | simp only [Ai,Aa,V.fz,fzL,Ab] | simp [Ai,Aa,V.fz,fzL,V.up,upL,Ab,Ac,Ad,slr]),(by rfl)⟩
 refine Br.oe h (fun p44 h=> ?_) (fun p44 h=> ?_)
 ·refine Cells.lit rfl rfl<|Cells.lit rfl rfl<|Kid.lit rfl rfl<|Len.map<|Ask.o h fun p45 h=>Kid.lit rfl rfl<|Cells.one (fun _=>⟨rfl,rfl⟩) (by first | omega | (simp [Ak] at * <;> omega))<|SameQ.mk ⟨rfl,?_⟩
  refine Cells.lit rfl rfl<|SameQ.mk ⟨rfl,?_⟩
  refine SameQ.mk ⟨rfl,?_⟩
  refine SameQ.mk ⟨rfl,?_⟩
  refine Cells.lit rfl rfl<|SameQ.mk ⟨rfl,?_⟩
  refine SameQ.mk ⟨rfl,?_⟩
  refine Kid.lit rfl rfl<|Len.map<|Ask.o h fun p46 h=>SameQ.mk ⟨rfl,?_⟩
  refine Kid.lit rfl rfl<|Cells.one (fun _=>⟨rfl,rfl⟩) (by first | omega | (simp [Ak] at * <;> omega))<|SameQ.mk ⟨rfl,?_⟩
  refine SameQ.mk ⟨rfl,?_⟩
  refine BslQ.o Af [r1] (by exact fun _=>⟨rfl,rfl⟩) (by first | rfl | (simp only [Aa,V.fz,fzL,V.up,upL,Ab,Ac,Ad,slr,List.cons_append,List.nil_append];done) | simp [Aa,V.fz,fzL,V.up,upL,Ab,Ac,Ad,slr])<|SameQ.mk ⟨rfl,?_⟩
  refine Cells.lit rfl rfl<|SameQ.mk ⟨rfl,?_⟩
  refine SameQ.mk ⟨rfl,?_⟩
  refine SameQ.mk ⟨rfl,?_⟩
  refine Cells.lit rfl rfl<|SameQ.mk ⟨rfl,?_⟩
  refine SameQ.mk ⟨rfl,?_⟩
  refine Kid.lit rfl rfl<|Len.map<|Ask.o h fun p47 h=>SameQ.mk ⟨rfl,?_⟩
  refine Kid.lit rfl rfl<|Cells.one (fun _=>⟨rfl,rfl⟩) (by first | omega | (simp [Ak] at * <;> omega))<|SameQ.mk ⟨rfl,?_⟩
  refine NoOwn.o (fun _=>rfl)<|Kid.lit rfl rfl<|Kid.one (fun _=>⟨rfl,rfl⟩) (by first | omega | (simp [Ak] at * <;> omega))<|Kid.lit rfl rfl<|Kid.one (fun _=>⟨rfl,rfl⟩) (by first | omega | (simp [Ak] at * <;> omega))<|SetKids.mkhole (fun _=>⟨rfl,rfl⟩) (by first | omega | (simp [Ak] at * <;> omega))<|SetKids.lit rfl<|AppQ.o (m:=1) Af (by exact fun _=>⟨rfl,rfl⟩) (nth r31.Below r37.toNat) ([r1]) (by rfl) (by rfl) h fun h=>SameQ.mk ⟨rfl,?_⟩
  refine Cells.lit rfl rfl<|SameQ.mk ⟨rfl,?_⟩
  refine SameQ.mk ⟨rfl,?_⟩
  refine Kid.lit rfl rfl<|Len.hole<|Ask.o h fun p48 h=>Kid.lit rfl rfl<|SetKids.fill (fun _=>⟨rfl,rfl⟩) (nth r31.Below r37.toNat++[r1]) (by rfl) (by first | omega | (simp [Ak] at * <;> omega))<|Kid.lit rfl rfl<|SetKids.lit rfl<|Cells.lit rfl rfl<|SetKids.lit rfl ?_
  cases h;exact ⟨(by first | rfl | simp only [Ai,Aa,V.fz,fzL,Ab] | simp [Ai,Aa,V.fz,fzL,V.up,upL,Ab,Ac,Ad,slr]),(by rfl)⟩
 refine Br.oe h (fun p49 h=> ?_) (fun p49 h=> ?_)
 ·refine FrzQ.d (V.ptr true (V.agg [V.sl true (1:Nat) (List.map (slr false (1:Nat) Af) r31.Below)])) (by first | (simp only [V.fzAt,Dz,Q7,Ab];done) | exact Eq.trans (b:=V.ptr true (V.agg [V.sl true (1:Nat) (List.map (slr false (1:Nat) Af) r31.Below)])) rfl (by simp only [Ac]))<|Cells.lit rfl rfl<|Cells.lit rfl rfl<|Kid.lit rfl rfl<|Len.map<|Ask.o h fun p50 h=>Kid.lit rfl rfl<|Cells.one (fun _=>⟨rfl,rfl⟩) (by first | omega | (simp [Ak] at * <;> omega))<|LendP.io Af (rP true (At false)) (by rfl) (fun _=>rfl) (fun _=>⟨rfl,rfl⟩) (fun _=>rfl) h (fun r h=>Dc h) (fun r51 u52 h=> ?_)
  refine CallP.o (slr false 1 Af) (by rfl) h (fun r h=>Aty h) (fun r53 h=> ?_)
  refine Kid.lit rfl rfl<|Len.map<|Ask.o h fun p54 h=>Kid.lit rfl rfl<|SetKids.one (fun _=>⟨rfl,rfl⟩) (r53) (by rfl) (by first | omega | (simp [Ak] at * <;> omega))<|Kid.lit rfl rfl<|SetKids.lit rfl<|Cells.lit rfl rfl<|SetKids.lit rfl ?_
  cases h;exact ⟨(by first | rfl | simp only [Ai,Aa,V.fz,fzL,Ab] | simp [Ai,Aa,V.fz,fzL,V.up,upL,Ab,Ac,Ad,slr]),(by rfl)⟩
 refine Br.oe h (fun p55 h=> ?_) (fun p55 h=> ?_)
 ·refine LoopQ.o [9,2,0,147] (Kd) (Qp) h (fun s o h=>Abq s o h) (by rfl) (fun _=>rfl) ?_
  rintro ⟨q60_9,q60_147⟩ h
  try dsimp only at h
  refine Cells.lit rfl rfl<|SetKids.lit rfl ?_
  cases h;exact ⟨(by first | rfl | simp only [Ai,V.fz,fzL,Ab,slr] | simp [Ai,Aa,V.fz,fzL,V.up,upL,Ab,Ac,Ad,slr]),(by rfl)⟩
 refine Cells.lit rfl rfl<|SetKids.lit rfl ?_
 cases h;exact ⟨(by first | rfl | simp only [Ai,V.fz,fzL,Ab,slr] | simp [Ai,Aa,V.fz,fzL,V.up,upL,Ab,Ac,Ad,slr]),(by rfl)⟩
end Go.Proofs.Ytpfikenknmlajaa.Ax
