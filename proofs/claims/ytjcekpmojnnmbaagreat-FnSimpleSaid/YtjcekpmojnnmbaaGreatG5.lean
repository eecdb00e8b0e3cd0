/-
 What the functions compute, as functions on plain data, and that the program does compute it; written by program.
-/
import Derived.Test.YtjcekpmojnnmbaaGreatCode
import Derived.Test.YtjcekpmojnnmbaaGreatG1
import Derived.Test.YtjcekpmojnnmbaaGreatG2
namespace Go.Proofs.YtjcekpmojnnmbaaGreat.Ax
open Go
set_option maxRecDepth 100000
set_option maxHeartbeats 4000000
noncomputable def F6 (all0:List (List Int)) (p0:List Int) (x6:Int) (_x5:List (List Int)):(Int×Bool)→Option ((Int×Bool) ⊕ Bool):=fun (x8,x7)=>
 ((if x8<(↑all0.length:Int) then
 if (x7)=true then
 some (.inl ())
 else
 some (.inr ())
 else
 some (.inr ()):Option (Unit ⊕ Unit))).bind fun t=>match t with
 | (.inl _)=>(ask ((0:Int)≤x8∧x8<(↑all0.length:Int)) <|
 (Ez (p0) (nth all0 x8.toNat)).bind fun r12=>
 if (r12)=true then
 ask ((0:Int)≤x8∧x8<(↑all0.length:Int)) <|
 ask ((0:Int)≤x6∧x6<(↑all0.length:Int)) <|
 (Ez (nth all0 x8.toNat) (nth all0 x6.toNat)).bind fun r16=>
 if (r16)=true then
 ask ((0:Int)≤x8∧x8<(↑all0.length:Int)) <|
 (Fv (nth all0 x8.toNat) (p0)).bind fun r19=>
 if (r19)=true then
 ask (InI (x8+(1:Int))) <|
 some (.inl (x8+(1:Int),x7))
 else
 ask ((0:Int)≤x8∧x8<(↑all0.length:Int)) <|
 ask ((0:Int)≤x6∧x6<(↑all0.length:Int)) <|
 (Fv (nth all0 x8.toNat) (nth all0 x6.toNat)).bind fun r24=>
 if (r24)=true then
 ask (InI (x8+(1:Int))) <|
 some (.inl (x8+(1:Int),x7))
 else
 ask (InI (x8+(1:Int))) <|
 some (.inl (x8+(1:Int),false))
 else
 ask (InI (x8+(1:Int))) <|
 some (.inl (x8+(1:Int),x7))
 else
 ask (InI (x8+(1:Int))) <|
 some (.inl (x8+(1:Int),x7)))
 | (.inr _)=>(some (.inr x7))
def Ky (all0:List (List Int)) (p0:List Int) (x6:Int) (x5:List (List Int)):(Int×Bool)→St:=fun s=>[(8,A.val (Af s.1)),(7,A.val (V.bool s.2)),(6,A.val (Af (x6))),(5,A.val ((slr true 1 (slr false 1 Af)) (x5))),(0,A.val ((slr false 1 (slr false 1 Af)) (all0))),(1,A.val ((slr false 1 Af) (p0)))]
def Qe (all0:List (List Int)) (p0:List Int) (x6:Int) (x5:List (List Int)):Bool→Tgt
 | s=>((Ex.exit 2),[7,6,5,0,1],[(7,A.val (V.bool s)),(6,A.val (Af (x6))),(5,A.val ((slr true 1 (slr false 1 Af)) (x5))),(0,A.val ((slr false 1 (slr false 1 Af)) (all0))),(1,A.val ((slr false 1 Af) (p0)))])
theorem Abo {all0:List (List Int)} {p0:List Int} {x6:Int} {x5:List (List Int)} (s:(Int×Bool)) (o:(Int×Bool) ⊕ Bool) (h:F6 all0 p0 x6 x5 s=some o):vc Tryz.prog P4 (Dl [8,7,6,5,0,1] (Ky all0 p0 x6 x5) (Qe all0 p0 x6 x5) o) (Ky all0 p0 x6 x5 s):=by
 obtain ⟨x8,x7⟩:=s
 unfold F6 at h
 try dsimp only at h
 refine CutQ.o (fun t:(Unit ⊕ Unit)=>match t with | (.inl s)=>(Ex.normal,[8,7,6,5,0,1],[(8,A.val (Af (x8))),(7,A.val (V.bool (x7))),(6,A.val (Af (x6))),(5,A.val ((slr true 1 (slr false 1 Af)) (x5))),(0,A.val ((slr false 1 (slr false 1 Af)) (all0))),(1,A.val ((slr false 1 Af) (p0)))]) | (.inr s)=>((Ex.exit 2),[7,6,5,0,1],[(7,A.val (V.bool (x7))),(6,A.val (Af (x6))),(5,A.val ((slr true 1 (slr false 1 Af)) (x5))),(0,A.val ((slr false 1 (slr false 1 Af)) (all0))),(1,A.val ((slr false 1 Af) (p0)))])) h ?_ ?_
 ·intro t h
  refine Len.map<|Br.od h (fun p8 h=> ?_) (fun p8 h=> ?_)
  ·refine Br.yes<|Br.ob h (fun p9 h=> ?_) (fun p9 h=> ?_)
   ·cases h;exact ⟨rfl,rfl⟩
   cases h;exact ⟨rfl,rfl⟩
  refine Br.no<|Br.no ?_
  cases h;exact ⟨rfl,rfl⟩
 rintro (⟨⟩ | ⟨⟩) h
 ·try dsimp only at h
  refine Len.map<|Ask.o h fun p11 h=>Elem.o (by first | omega | (simp [Ap] at * <;> omega))<|CallP.o V.bool (by rfl) h (fun r h=>Lu h) (fun r12 h=> ?_)
  refine Br.ob h (fun p13 h=> ?_) (fun p13 h=> ?_)
  ·refine Br.yes<|Br.yes<|Len.map<|Ask.o h fun p14 h=>Elem.o (by first | omega | (simp [Ap] at * <;> omega))<|Br.yes<|Br.yes<|Br.yes<|Br.yes<|Len.map<|Ask.o h fun p15 h=>Elem.o (by first | omega | (simp [Ap] at * <;> omega))<|Br.yes<|Br.yes<|CallP.o V.bool (by rfl) h (fun r h=>Lu h) (fun r16 h=> ?_)
   refine Br.yes<|Br.ob h (fun p17 h=> ?_) (fun p17 h=> ?_)
   ·refine Br.yes<|Br.yes<|Len.map<|Ask.o h fun p18 h=>Elem.o (by first | omega | (simp [Ap] at * <;> omega))<|Br.yes<|Br.yes<|Br.yes<|CallP.o V.bool (by rfl) h (fun r h=>Nk h) (fun r19 h=> ?_)
    refine Br.yes<|Br.yes<|Br.flip<|Br.ob h (fun p20 h=> ?_) (fun p20 h=> ?_)
    ·refine Br.no<|Br.no<|Br.no<|Br.no<|Br.no<|Br.no<|Br.no<|Br.no<|Br.no<|Br.no<|Br.no<|Ask.o h fun p21 h=> ?_
     cases h;exact ⟨rfl,rfl⟩
    refine Br.yes<|Br.yes<|Len.map<|Ask.o h fun p22 h=>Elem.o (by first | omega | (simp [Ap] at * <;> omega))<|Br.yes<|Br.yes<|Br.yes<|Br.yes<|Len.map<|Ask.o h fun p23 h=>Elem.o (by first | omega | (simp [Ap] at * <;> omega))<|Br.yes<|Br.yes<|CallQ.o V.bool (by rfl) h (fun r h=>Nk h) (fun r24 h=> ?_)
    refine Br.yes<|Br.yes<|Br.flip<|Br.ob h (fun p25 h=> ?_) (fun p25 h=> ?_)
    ·refine Ask.o h fun p26 h=> ?_
     cases h;exact ⟨rfl,rfl⟩
    refine Ask.o h fun p27 h=> ?_
    cases h;exact ⟨rfl,rfl⟩
   refine Br.no<|Br.no<|Br.no<|Br.no<|Br.no<|Br.no<|Br.no<|Br.no<|Br.no<|Br.no<|Br.no<|Br.no<|Br.no<|Br.no<|Br.no<|Br.no<|Br.no<|Br.no<|Br.no<|Ask.o h fun p28 h=> ?_
   cases h;exact ⟨rfl,rfl⟩
  refine Br.no<|Br.no<|Br.no<|Br.no<|Br.no<|Br.no<|Br.no<|Br.no<|Br.no<|Br.no<|Br.no<|Br.no<|Br.no<|Br.no<|Br.no<|Br.no<|Br.no<|Br.no<|Br.no<|Br.no<|Br.no<|Br.no<|Br.no<|Br.no<|Br.no<|Br.no<|Br.no<|Br.no<|Br.no<|Ask.o h fun p29 h=> ?_
  cases h;exact ⟨rfl,rfl⟩
 try dsimp only at h
 cases h;exact ⟨rfl,rfl⟩
noncomputable def Em (all0:List (List Int)) (p0:List Int):(Int×(List (List Int)))→Option ((Int×(List (List Int))) ⊕ (List (List Int))):=fun (x6,x5)=>
 if x6<(↑all0.length:Int) then
 ((ask ((0:Int)≤x6∧x6<(↑all0.length:Int)) <|
 (Ez (p0) (nth all0 x6.toNat)).bind fun r3=>
 if (r3)=true then
 ask ((0:Int)≤x6∧x6<(↑all0.length:Int)) <|
 (Fv (p0) (nth all0 x6.toNat)).bind fun r6=>
 some !r6
 else
 some false:Option Bool)).bind fun q7_7=>
 (Al (F6 all0 p0 x6 x5) ((0:Int),q7_7)).bind fun q30_7=>
 if (q30_7)=true then
 ask ((0:Int)≤x6∧x6<(↑all0.length:Int)) <|
 ask ((x5).length+([nth all0 x6.toNat]).length≤LIM) <|
 ask (InI (x6+(1:Int))) <|
 some (.inl (x6+(1:Int),x5++[nth all0 x6.toNat]))
 else
 ask (InI (x6+(1:Int))) <|
 some (.inl (x6+(1:Int),x5))
 else
 some (.inr x5)
def Ku (all0:List (List Int)) (p0:List Int):(Int×(List (List Int)))→St:=fun s=>[(6,A.val (Af s.1)),(5,A.val ((slr true 1 (slr false 1 Af)) s.2)),(0,A.val ((slr false 1 (slr false 1 Af)) (all0))),(1,A.val ((slr false 1 Af) (p0)))]
def Qj (_all0:List (List Int)) (_p0:List Int):(List (List Int))→Tgt
 | s=>((Ex.exit 0),[5],[(5,A.val ((slr true 1 (slr false 1 Af)) s))])
theorem Abu {all0:List (List Int)} {p0:List Int} (s:(Int×(List (List Int)))) (o:(Int×(List (List Int))) ⊕ (List (List Int))) (h:Em all0 p0 s=some o):vc Tryz.prog Qc (Dl [6,5,0,1] (Ku all0 p0) (Qj all0 p0) o) (Ku all0 p0 s):=by
 obtain ⟨x6,x5⟩:=s
 unfold Em at h
 try dsimp only at h
 refine Len.map<|Br.od h (fun p1 h=> ?_) (fun p1 h=> ?_)
 ·refine CutQ.o (fun t:Bool=>match t with | s=>(Ex.normal,[7,6,5,0,1],[(7,A.val (V.bool s)),(6,A.val (Af (x6))),(5,A.val ((slr true 1 (slr false 1 Af)) (x5))),(0,A.val ((slr false 1 (slr false 1 Af)) (all0))),(1,A.val ((slr false 1 Af) (p0)))])) h ?_ ?_
  ·intro t h
   refine Len.map<|Ask.o h fun p2 h=>Elem.o (by first | omega | (simp [Ap] at * <;> omega))<|CallQ.o V.bool (by rfl) h (fun r h=>Lu h) (fun r3 h=> ?_)
   refine Br.ob h (fun p4 h=> ?_) (fun p4 h=> ?_)
   ·refine Br.yes<|Br.yes<|Br.yes<|Len.map<|Ask.o h fun p5 h=>Elem.o (by first | omega | (simp [Ap] at * <;> omega))<|Br.yes<|Br.yes<|CallQ.o V.bool (by rfl) h (fun r h=>Nk h) (fun r6 h=> ?_)
    refine Br.yes<|Br.yes ?_
    cases h;exact ⟨rfl,rfl⟩
   refine Br.no<|Br.no<|Br.no<|Br.no<|Br.no<|Br.no<|Br.no ?_
   cases h;exact ⟨rfl,rfl⟩
  rintro q7_7 h
  try dsimp only at h
  refine LoopQ.o [8,7,6,5,0,1] (Ky all0 p0 x6 x5) (Qe all0 p0 x6 x5) h (fun s o h=>Abo s o h) (by rfl) (fun _=>rfl) ?_
  rintro q30_7 h
  try dsimp only at h
  refine Br.ob h (fun p31 h=> ?_) (fun p31 h=> ?_)
  ·refine Len.map<|Ask.o h fun p32 h=>Elem.o (by first | omega | (simp [Ap] at * <;> omega))<|BslQ.o (slr false 1 Af) ([nth all0 x6.toNat]) (by exact fun _=>⟨rfl,rfl⟩) (by first | rfl | (simp only [Aa,V.fz,fzL,V.up,upL,Ab,Ac,Ad,slr,List.cons_append,List.nil_append];done) | simp [Aa,V.fz,fzL,V.up,upL,Ab,Ac,Ad,slr])<|NoOwn.o (fun _=>rfl)<|AppQ.o (m:=1) (slr false 1 Af) (by exact fun _=>⟨rfl,rfl⟩) (x5) ([nth all0 x6.toNat]) (by rfl) (by rfl) h fun h=>Ask.o h fun p33 h=> ?_
   cases h;exact ⟨rfl,rfl⟩
  refine Ask.o h fun p34 h=> ?_
  cases h;exact ⟨rfl,rfl⟩
 cases h;exact ⟨rfl,rfl⟩
noncomputable def Gk (all0:(List (List Int))) (p0:(List Int)):Option (List (List Int)):=
 (Al (Em all0 p0) ((0:Int),Aw (List Int))).bind fun q35_5=>
 some q35_5
theorem Wj {all0:(List (List Int))} {p0:(List Int)} {v:(List (List Int))} (h:Gk all0 p0=some v):Ret Tryz.prog Kp [(slr false 1 (slr false 1 Af)) all0,(slr false 1 Af) p0] ((slr true 1 (slr false 1 Af)) v):=by
 refine A5 Ahb (Nat.le_of_ble_eq_true rfl) ?_
 unfold Gk at h
 refine BslQ.o (slr true 1 Af) (Aw (List Int)) (by exact fun _=>⟨rfl,rfl⟩) (by first | rfl | (simp only [Aa,V.fz,fzL,V.up,upL,Ab,Ac,Ad,slr,List.cons_append,List.nil_append];done) | simp [Aa,V.fz,fzL,V.up,upL,Ab,Ac,Ad,slr])<|LoopQ.o [6,5,0,1] (Ku all0 p0) (Qj all0 p0) h (fun s o h=>Abu s o h) (by rfl) (fun _=>rfl) ?_
 rintro q35_5 h
 try dsimp only at h
 cases h;exact (by rfl)
noncomputable def Gw (n0:Int) (p0:(List Int)) (q0:(List Int)):Option Bool:=
 (H7 (n0)).bind fun r1=>
 if (r1)=true then
 (Di (n0) (p0)).bind fun r3=>
 if (r3)=true then
 (Di (n0) (q0)).bind fun r5=>
 some r5
 else
 some false
 else
 some false
theorem Yf {n0:Int} {p0:(List Int)} {q0:(List Int)} {v:Bool} (h:Gw n0 p0 q0=some v):Ret Tryz.prog Iy [Af n0,(slr false 1 Af) p0,(slr false 1 Af) q0] (V.bool v):=by
 refine A5 Xo (Nat.le_of_ble_eq_true rfl) ?_
 unfold Gw at h
 refine CallQ.o V.bool (by rfl) h (fun r h=>Z9 h) (fun r1 h=> ?_)
 refine Br.ob h (fun p2 h=> ?_) (fun p2 h=> ?_)
 ·refine Br.yes<|Br.yes<|CallQ.o V.bool (by rfl) h (fun r h=>Ks h) (fun r3 h=> ?_)
  refine Br.yes<|Br.ob h (fun p4 h=> ?_) (fun p4 h=> ?_)
  ·refine Br.yes<|Br.yes<|CallQ.o V.bool (by rfl) h (fun r h=>Ks h) (fun r5 h=> ?_)
   refine Br.yes ?_
   cases h;exact (by rfl)
  refine Br.no<|Br.no<|Br.no ?_
  cases h;exact (by rfl)
 refine Br.no<|Br.no<|Br.no<|Br.no<|Br.no<|Br.no<|Br.no ?_
 cases h;exact (by rfl)
noncomputable def N6 (f0:SOp) (n0:Int):Option Bool:=
 if f0.Arity≥(0:Int) then
 if f0.Arity≤(3:Int) then
 (Jd (n0) (f0.Arity)).bind fun r3=>
 if (↑f0.Table.length:Int)=r3 then
 (J9 (f0.Table) (n0)).bind fun r5=>
 some r5
 else
 some false
 else
 some false
 else
 some false
theorem Asj {f0:SOp} {n0:Int} {v:Bool} (h:N6 f0 n0=some v):Ret Tryz.prog X1 [(Bh false) f0,Af n0] (V.bool v):=by
 refine A5 Arj (Nat.le_of_ble_eq_true rfl) ?_
 unfold N6 at h
 refine Cells.lit rfl rfl<|Br.od h (fun p1 h=> ?_) (fun p1 h=> ?_)
 ·refine Br.yes<|Cells.lit rfl rfl<|Br.yes<|Br.yes<|Br.od h (fun p2 h=> ?_) (fun p2 h=> ?_)
  ·refine Br.yes<|Cells.lit rfl rfl<|Br.yes<|Len.map<|Br.yes<|Br.yes<|Br.yes<|Cells.lit rfl rfl<|Br.yes<|CallP.o Af (by rfl) h (fun r h=>Apo h) (fun r3 h=> ?_)
   refine Br.yes<|Br.yes<|Br.oe h (fun p4 h=> ?_) (fun p4 h=> ?_)
   ·refine Br.yes<|Cells.lit rfl rfl<|Br.yes<|Br.yes<|CallQ.o V.bool (by rfl) h (fun r h=>Amg h) (fun r5 h=> ?_)
    refine Br.yes ?_
    cases h;exact (by rfl)
   refine Br.no<|Br.no<|Br.no<|Br.no ?_
   cases h;exact (by rfl)
  refine Br.no<|Br.no<|Br.no<|Br.no<|Br.no<|Br.no<|Br.no<|Br.no<|Br.no<|Br.no<|Br.no<|Br.no<|Br.no ?_
  cases h;exact (by rfl)
 refine Br.no<|Br.no<|Br.no<|Br.no<|Br.no<|Br.no<|Br.no<|Br.no<|Br.no<|Br.no<|Br.no<|Br.no<|Br.no<|Br.no<|Br.no<|Br.no<|Br.no ?_
 cases h;exact (by rfl)
noncomputable def Bi (self:List (List Int)→Int→List Bool→List Int→Option (Bool×List Bool×List Int)) (all0:List (List Int)) (i0:Int):(Int×(List Bool)×(List Int))→Option ((Int×(List Bool)×(List Int)) ⊕ (((List Bool)×(List Int)) ⊕ ((List Bool)×(List Int)))):=fun (x9,x61,x62)=>
 if x9<(↑all0.length:Int) then
 ((if x9=i0 then
 some (.inl ())
 else
 ask ((0:Int)≤x9∧x9<(↑x61.length:Int)) <|
 if (nth x61 x9.toNat)=true then
 some (.inl ())
 else
 ask ((0:Int)≤i0∧i0<(↑all0.length:Int)) <|
 ask ((0:Int)≤x9∧x9<(↑all0.length:Int)) <|
 (Ez (nth all0 i0.toNat) (nth all0 x9.toNat)).bind fun r7=>
 if (r7)=true then
 some (.inr ())
 else
 some (.inl ()):Option (Unit ⊕ Unit))).bind fun t=>match t with
 | (.inl _)=>(ask (InI (x9+(1:Int))) <|
 some (.inl (x9+(1:Int),x61,x62)))
 | (.inr _)=>(ask ((0:Int)≤x9∧x9<(↑x61.length:Int)) <|
 ask ((0:Int)≤x9∧x9<(↑x62.length:Int)) <|
 if nth x62 x9.toNat<(0:Int) then
 ask ((0:Int)≤x9∧x9<(↑x62.length:Int)) <|
 some (.inr (.inl (x61.set x9.toNat true,x62.set x9.toNat i0)))
 else
 ask ((0:Int)≤x9∧x9<(↑x62.length:Int)) <|
 (self (all0) (nth x62 x9.toNat) (x61.set x9.toNat true) (x62)).bind fun (r16,u17,u18)=>
 if (r16)=true then
 ask ((0:Int)≤x9∧x9<(↑u18.length:Int)) <|
 some (.inr (.inl (u17,u18.set x9.toNat i0)))
 else
 ask (InI (x9+(1:Int))) <|
 some (.inl (x9+(1:Int),u17,u18)))
 else
 some (.inr (.inr (x61,x62)))
def Jl (all0:List (List Int)) (i0:Int):(Int×(List Bool)×(List Int))→St:=fun s=>[(9,A.val (Af s.1)),(0,A.val ((slr false 1 (slr false 1 Af)) (all0))),(1,A.val (Af (i0))),(2,A.ref 61 []),(61,A.val ((slr true 1 V.bool) s.2.1)),(3,A.ref 62 []),(62,A.val ((slr true 1 Af) s.2.2))]
def O7 (_all0:List (List Int)) (_i0:Int):(((List Bool)×(List Int)) ⊕ ((List Bool)×(List Int)))→Tgt
 | (.inl s)=>(Ex.ret,[8,61,62],[(8,A.val (V.bool (true))),(61,A.val ((slr true 1 V.bool) s.1)),(62,A.val ((slr true 1 Af) s.2))])
 | (.inr s)=>((Ex.exit 0),[61,62],[(61,A.val ((slr true 1 V.bool) s.1)),(62,A.val ((slr true 1 Af) s.2))])
theorem Zj {self:List (List Int)→Int→List Bool→List Int→Option (Bool×List Bool×List Int)} {all0:List (List Int)} {i0:Int} (hself : ∀ {w_0 w_1 w_2 w_3 v},self w_0 w_1 w_2 w_3=some v→Akn Tryz.prog Dp [(slr false 1 (slr false 1 Af)) w_0,Af w_1,(slr true 1 V.bool) w_2,(slr true 1 Af) w_3] (V.bool v.1) 2 ((slr true 1 V.bool) v.2.1) 3 ((slr true 1 Af) v.2.2)) (s:(Int×(List Bool)×(List Int))) (o:(Int×(List Bool)×(List Int)) ⊕ (((List Bool)×(List Int)) ⊕ ((List Bool)×(List Int)))) (h:Bi self all0 i0 s=some o):vc Tryz.prog O5 (Dl [9,0,1,2,61,3,62] (Jl all0 i0) (O7 all0 i0) o) (Jl all0 i0 s):=by
 obtain ⟨x9,x61,x62⟩:=s
 unfold Bi at h
 try dsimp only at h
 refine Len.map<|Br.od h (fun p1 h=> ?_) (fun p1 h=> ?_)
 ·refine CutQ.o (fun t:(Unit ⊕ Unit)=>match t with | (.inl s)=>((Ex.exit 1),[9,0,1,2,61,3,62],[(9,A.val (Af (x9))),(0,A.val ((slr false 1 (slr false 1 Af)) (all0))),(1,A.val (Af (i0))),(2,A.ref 61 []),(61,A.val ((slr true 1 V.bool) (x61))),(3,A.ref 62 []),(62,A.val ((slr true 1 Af) (x62)))]) | (.inr s)=>(Ex.normal,[9,0,1,2,61,3,62],[(9,A.val (Af (x9))),(0,A.val ((slr false 1 (slr false 1 Af)) (all0))),(1,A.val (Af (i0))),(2,A.ref 61 []),(61,A.val ((slr true 1 V.bool) (x61))),(3,A.ref 62 []),(62,A.val ((slr true 1 Af) (x62)))])) h ?_ ?_
  ·intro t h
   refine Br.oe h (fun p2 h=> ?_) (fun p2 h=> ?_)
   ·refine Br.yes<|Br.yes<|Br.yes<|Br.yes<|Br.yes<|Br.yes<|Br.yes<|Br.yes<|Br.yes<|Br.yes<|Br.yes<|Br.yes<|Br.yes<|Br.yes<|Br.yes<|Br.yes ?_
    cases h;exact ⟨rfl,rfl⟩
   refine Br.no<|Br.no<|Len.map<|Ask.o h fun p3 h=>Br.no<|Cells.one (fun _=>⟨rfl,rfl⟩) (by first | omega | (simp [Ap] at * <;> omega))<|Br.no<|Br.ob h (fun p4 h=> ?_) (fun p4 h=> ?_)
   ·refine Br.yes<|Br.yes<|Br.yes<|Br.yes<|Br.yes<|Br.yes<|Br.yes<|Br.yes<|Br.yes<|Br.yes<|Br.yes ?_
    cases h;exact ⟨rfl,rfl⟩
   refine Br.no<|Br.no<|Len.map<|Ask.o h fun p5 h=>Elem.o (by first | omega | (simp [Ap] at * <;> omega))<|Br.no<|Br.no<|Br.no<|Br.no<|Len.map<|Ask.o h fun p6 h=>Elem.o (by first | omega | (simp [Ap] at * <;> omega))<|Br.no<|Br.no<|CallQ.o V.bool (by rfl) h (fun r h=>Lu h) (fun r7 h=> ?_)
   refine Br.no<|Br.no<|Br.flip<|Br.ob h (fun p8 h=> ?_) (fun p8 h=> ?_)
   ·cases h;exact ⟨rfl,rfl⟩
   cases h;exact ⟨rfl,rfl⟩
  rintro (⟨⟩ | ⟨⟩) h
  ·try dsimp only at h
   refine Ask.o h fun p10 h=> ?_
   cases h;exact ⟨rfl,rfl⟩
  try dsimp only at h
  refine Len.map<|Ask.o h fun p11 h=>SetKids.one (fun _=>⟨rfl,rfl⟩) (true) (by rfl) (by first | omega | (simp [Ap] at * <;> omega))<|Len.map<|Ask.o h fun p12 h=>Cells.one (fun _=>⟨rfl,rfl⟩) (by first | omega | (simp [Ap] at * <;> omega))<|Br.od h (fun p13 h=> ?_) (fun p13 h=> ?_)
  ·refine Br.yes<|Br.yes<|Br.yes<|Br.yes<|Br.yes<|Br.yes<|Br.yes<|Br.yes<|Br.yes<|Len.map<|Ask.o h fun p14 h=>SetKids.one (fun _=>⟨rfl,rfl⟩) (i0) (by rfl) (by first | omega | (simp [Ap] at * <;> omega)) ?_
   cases h;exact ⟨rfl,rfl⟩
  refine Br.no<|Br.no<|Br.no<|Len.map<|Ask.o h fun p15 h=>Br.no<|Cells.one (fun _=>⟨rfl,rfl⟩) (by first | omega | (simp [Ap] at * <;> omega))<|Br.no<|Br.no<|Br.no<|CallQ.io2 V.bool (slr true 1 V.bool) (slr true 1 Af) (by rfl) rfl rfl (fun _=>rfl) (fun _=>⟨rfl,rfl⟩) (fun _=>⟨rfl,rfl⟩) rfl rfl h (fun r h=>hself h) (fun r16 u17 u18 h=> ?_)
  refine Br.no<|Br.ob h (fun p19 h=> ?_) (fun p19 h=> ?_)
  ·refine Len.map<|Ask.o h fun p20 h=>SetKids.one (fun _=>⟨rfl,rfl⟩) (i0) (by rfl) (by first | omega | (simp [Ap] at * <;> omega)) ?_
   cases h;exact ⟨rfl,rfl⟩
  refine Ask.o h fun p21 h=> ?_
  cases h;exact ⟨rfl,rfl⟩
 cases h;exact ⟨rfl,rfl⟩
noncomputable def Cx (self:(List (List Int))→Int→(List Bool)→(List Int)→Option (Bool×(List Bool)×(List Int))) (all0:(List (List Int))) (i0:Int) (seen0:(List Bool)) (owner0:(List Int)):Option (Bool×(List Bool)×(List Int)):=
 (Al (Bi self all0 i0) ((0:Int),seen0,owner0)).bind fun t=>match t with
 | (.inl (q22_61,q22_62))=>(some (true,q22_61,q22_62))
 | (.inr (q22_61,q22_62))=>(some (false,q22_61,q22_62))
noncomputable def Be:Nat→(List (List Int))→Int→(List Bool)→(List Int)→Option (Bool×(List Bool)×(List Int))
 | 0=>fun _ _ _ _=>none
 | n+1=>Cx (Be n)
theorem Aah {self:(List (List Int))→Int→(List Bool)→(List Int)→Option (Bool×(List Bool)×(List Int))} (hself : ∀ {w_0 w_1 w_2 w_3 v},self w_0 w_1 w_2 w_3=some v→Akn Tryz.prog Dp [(slr false 1 (slr false 1 Af)) w_0,Af w_1,(slr true 1 V.bool) w_2,(slr true 1 Af) w_3] (V.bool v.1) 2 ((slr true 1 V.bool) v.2.1) 3 ((slr true 1 Af) v.2.2)) {all0:(List (List Int))} {i0:Int} {seen0:(List Bool)} {owner0:(List Int)} {v:(Bool×(List Bool)×(List Int))} (h:Cx self all0 i0 seen0 owner0=some v):Akn Tryz.prog Dp [(slr false 1 (slr false 1 Af)) all0,Af i0,(slr true 1 V.bool) seen0,(slr true 1 Af) owner0] (V.bool v.1) 2 ((slr true 1 V.bool) v.2.1) 3 ((slr true 1 Af) v.2.2):=by
 refine Ay1 Aef (Nat.le_of_ble_eq_true rfl) ?_
 unfold Cx at h
 refine LoopQ.o [9,0,1,2,61,3,62] (Jl all0 i0) (O7 all0 i0) h (fun s o h=>Zj hself s o h) (by rfl) (by rintro (_ | _)<;>rfl) ?_
 rintro (⟨q22_61,q22_62⟩ | ⟨q22_61,q22_62⟩) h
 ·try dsimp only at h
  cases h;exact ⟨(by rfl),(by rfl),(by rfl)⟩
 try dsimp only at h
 cases h;exact ⟨(by rfl),(by rfl),(by rfl)⟩
theorem Qu : ∀(n:Nat) {all0:(List (List Int))} {i0:Int} {seen0:(List Bool)} {owner0:(List Int)} {v:(Bool×(List Bool)×(List Int))},Be n all0 i0 seen0 owner0=some v→Akn Tryz.prog Dp [(slr false 1 (slr false 1 Af)) all0,Af i0,(slr true 1 V.bool) seen0,(slr true 1 Af) owner0] (V.bool v.1) 2 ((slr true 1 V.bool) v.2.1) 3 ((slr true 1 Af) v.2.2)
 | 0,_,_,_,_,_,h=>by cases h
 | n+1,_,_,_,_,_,h=>Aah (fun h=>Qu n h) h
theorem Ad7 {all0:(List (List Int))} {i0:Int} {seen0:(List Bool)} {owner0:(List Int)} {v:(Bool×(List Bool)×(List Int))} (h:(Amk fun n=>Be n all0 i0 seen0 owner0)=some v):Akn Tryz.prog Dp [(slr false 1 (slr false 1 Af)) all0,Af i0,(slr true 1 V.bool) seen0,(slr true 1 Af) owner0] (V.bool v.1) 2 ((slr true 1 V.bool) v.2.1) 3 ((slr true 1 Af) v.2.2):=by
 obtain ⟨n,hn⟩:=Anz h
 exact Qu n hn
end Go.Proofs.YtjcekpmojnnmbaaGreat.Ax
