/-
 What the functions compute, as functions on plain data, and that the program does compute it; written by program.
-/
import Derived.Test.YtjcekpmojnnmbaaGreatCode
import Derived.Test.YtjcekpmojnnmbaaGreatG1
import Derived.Test.YtjcekpmojnnmbaaGreatG5
import Derived.Test.YtjcekpmojnnmbaaGreatG7
import Derived.Test.YtjcekpmojnnmbaaGreatG8
import Derived.Test.YtjcekpmojnnmbaaGreatG10
namespace Go.Proofs.YtjcekpmojnnmbaaGreat.Ax
open Go
set_option maxRecDepth 100000
set_option maxHeartbeats 4000000
noncomputable def F0 (a0:SAlgebra) (_most0:Int) (x6:Int):(Int×(List (List Int)))→Option ((Int×(List (List Int))) ⊕ (List (List Int))):=fun (x7,x5')=>
 if x7<x6 then
 (Gb (a0) (x6) (x7)).bind fun r3=>
 (Jg (x5') (r3)).bind fun r4=>
 ask (InI (x7+(1:Int))) <|
 some (.inl (x7+(1:Int),r4))
 else
 some (.inr x5')
def Ml (a0:SAlgebra) (most0:Int) (x6:Int):(Int×(List (List Int)))→St:=fun s=>[(7,A.val (Af s.1)),(5,A.val ((slr false 1 (slr false 1 Af)) s.2)),(6,A.val (Af (x6))),(2,A.val ((rP true (Ai false)) (a0))),(1,A.val (Af (most0)))]
def U8 (a0:SAlgebra) (most0:Int) (x6:Int):(List (List Int))→Tgt
 | s=>((Ex.exit 2),[5,6,2,1],[(5,A.val ((slr false 1 (slr false 1 Af)) s)),(6,A.val (Af (x6))),(2,A.val ((rP true (Ai false)) (a0))),(1,A.val (Af (most0)))])
theorem Aex {a0:SAlgebra} {most0:Int} {x6:Int} (s:(Int×(List (List Int)))) (o:(Int×(List (List Int))) ⊕ (List (List Int))) (h:F0 a0 most0 x6 s=some o):vc Tryz.prog Uz (Dl [7,5,6,2,1] (Ml a0 most0 x6) (U8 a0 most0 x6) o) (Ml a0 most0 x6 s):=by
 obtain ⟨x7,x5'⟩:=s
 unfold F0 at h
 try dsimp only at h
 refine Br.od h (fun p2 h=> ?_) (fun p2 h=> ?_)
 ·refine Cells.lit rfl rfl<|CallQ.o (slr false 1 Af) (by rfl) h (fun r h=>Abp h) (fun r3 h=> ?_)
  refine CallQ.o (slr false 1 (slr false 1 Af)) (by rfl) h (fun r h=>Acd h) (fun r4 h=> ?_)
  refine Ask.o h fun p5 h=> ?_
  cases h;exact ⟨rfl,rfl⟩
 cases h;exact ⟨rfl,rfl⟩
noncomputable def Hd (a0:SAlgebra) (most0:Int):((List (List Int))×Int)→Option (((List (List Int))×Int) ⊕ (List (List Int))):=fun (x5,x6)=>
 if x6<a0.Size then
 (Al (F0 a0 most0 x6) ((0:Int),x5)).bind fun q6_5=>
 ask (InI (x6+(1:Int))) <|
 some (.inl (q6_5,x6+(1:Int)))
 else
 some (.inr x5)
def Mn (a0:SAlgebra) (most0:Int):((List (List Int))×Int)→St:=fun s=>[(5,A.val ((slr false 1 (slr false 1 Af)) s.1)),(6,A.val (Af s.2)),(2,A.val ((rP true (Ai false)) (a0))),(1,A.val (Af (most0)))]
def Ve (a0:SAlgebra) (most0:Int):(List (List Int))→Tgt
 | s=>((Ex.exit 0),[5,2,1],[(5,A.val ((slr false 1 (slr false 1 Af)) s)),(2,A.val ((rP true (Ai false)) (a0))),(1,A.val (Af (most0)))])
theorem Ae3 {a0:SAlgebra} {most0:Int} (s:((List (List Int))×Int)) (o:((List (List Int))×Int) ⊕ (List (List Int))) (h:Hd a0 most0 s=some o):vc Tryz.prog Ux (Dl [5,6,2,1] (Mn a0 most0) (Ve a0 most0) o) (Mn a0 most0 s):=by
 obtain ⟨x5,x6⟩:=s
 unfold Hd at h
 try dsimp only at h
 refine Cells.lit rfl rfl<|Br.od h (fun p1 h=> ?_) (fun p1 h=> ?_)
 ·refine LoopQ.o [7,5,6,2,1] (Ml a0 most0 x6) (U8 a0 most0 x6) h (fun s o h=>Aex s o h) (by rfl) (fun _=>rfl) ?_
  rintro q6_5 h
  try dsimp only at h
  refine Ask.o h fun p7 h=> ?_
  cases h;exact ⟨rfl,rfl⟩
 cases h;exact ⟨rfl,rfl⟩
noncomputable def Fy (most0:Int) (q8_5:List (List Int)) (x10:Int):(Int×(List (List Int))×(List (List Int)))→Option ((Int×(List (List Int))×(List (List Int))) ⊕ ((List (List Int))×(List (List Int)))):=fun (x11,x9',x8')=>
 ((if x11<(↑q8_5.length:Int) then
 if (↑x8'.length:Int)≤most0 then
 some (.inl ())
 else
 some (.inr ())
 else
 some (.inr ()):Option (Unit ⊕ Unit))).bind fun t=>match t with
 | (.inl _)=>(ask ((0:Int)≤x10∧x10<(↑x9'.length:Int)) <|
 ask ((0:Int)≤x11∧x11<(↑q8_5.length:Int)) <|
 (Ka (nth x9' x10.toNat) (nth q8_5 x11.toNat)).bind fun r19=>
 (Jg (x8') (r19)).bind fun r20=>
 if (↑r20.length:Int)>(↑x8'.length:Int) then
 ask ((x9').length+([r19]).length≤LIM) <|
 ask (InI (x11+(1:Int))) <|
 some (.inl (x11+(1:Int),x9'++[r19],r20))
 else
 ask (InI (x11+(1:Int))) <|
 some (.inl (x11+(1:Int),x9',x8')))
 | (.inr _)=>(some (.inr (x9',x8')))
def Nb (most0:Int) (q8_5:List (List Int)) (x10:Int):(Int×(List (List Int))×(List (List Int)))→St:=fun s=>[(11,A.val (Af s.1)),(9,A.val ((slr true 1 (slr false 1 Af)) s.2.1)),(8,A.val ((slr false 1 (slr false 1 Af)) s.2.2)),(10,A.val (Af (x10))),(5,A.val ((slr false 1 (slr false 1 Af)) (q8_5))),(1,A.val (Af (most0)))]
def Uy (most0:Int) (q8_5:List (List Int)) (x10:Int):((List (List Int))×(List (List Int)))→Tgt
 | s=>((Ex.exit 6),[9,8,10,5,1],[(9,A.val ((slr true 1 (slr false 1 Af)) s.1)),(8,A.val ((slr false 1 (slr false 1 Af)) s.2)),(10,A.val (Af (x10))),(5,A.val ((slr false 1 (slr false 1 Af)) (q8_5))),(1,A.val (Af (most0)))])
theorem Aei {most0:Int} {q8_5:List (List Int)} {x10:Int} (s:(Int×(List (List Int))×(List (List Int)))) (o:(Int×(List (List Int))×(List (List Int))) ⊕ ((List (List Int))×(List (List Int)))) (h:Fy most0 q8_5 x10 s=some o):vc Tryz.prog Ui (Dl [11,9,8,10,5,1] (Nb most0 q8_5 x10) (Uy most0 q8_5 x10) o) (Nb most0 q8_5 x10 s):=by
 obtain ⟨x11,x9',x8'⟩:=s
 unfold Fy at h
 try dsimp only at h
 refine CutQ.o (fun t:(Unit ⊕ Unit)=>match t with | (.inl s)=>(Ex.normal,[11,9,8,10,5,1],[(11,A.val (Af (x11))),(9,A.val ((slr true 1 (slr false 1 Af)) (x9'))),(8,A.val ((slr false 1 (slr false 1 Af)) (x8'))),(10,A.val (Af (x10))),(5,A.val ((slr false 1 (slr false 1 Af)) (q8_5))),(1,A.val (Af (most0)))]) | (.inr s)=>((Ex.exit 6),[9,8,10,5,1],[(9,A.val ((slr true 1 (slr false 1 Af)) (x9'))),(8,A.val ((slr false 1 (slr false 1 Af)) (x8'))),(10,A.val (Af (x10))),(5,A.val ((slr false 1 (slr false 1 Af)) (q8_5))),(1,A.val (Af (most0)))])) h ?_ ?_
 ·intro t h
  refine Len.map<|Br.od h (fun p14 h=> ?_) (fun p14 h=> ?_)
  ·refine Br.yes<|Len.map<|Br.yes<|Br.yes<|Br.yes<|Br.od h (fun p15 h=> ?_) (fun p15 h=> ?_)
   ·cases h;exact ⟨rfl,rfl⟩
   cases h;exact ⟨rfl,rfl⟩
  refine Br.no<|Br.no<|Br.no<|Br.no<|Br.no ?_
  cases h;exact ⟨rfl,rfl⟩
 rintro (⟨⟩ | ⟨⟩) h
 ·try dsimp only at h
  refine Len.map<|Ask.o h fun p17 h=>Cells.one (fun _=>⟨rfl,rfl⟩) (by first | omega | (simp [Ap] at * <;> omega))<|Len.map<|Ask.o h fun p18 h=>Elem.o (by first | omega | (simp [Ap] at * <;> omega))<|CallQ.o (slr true 1 Af) (by rfl) h (fun r h=>Alt h) (fun r19 h=> ?_)
  refine FrzQ.d (V.sl false (1:Nat) (List.map Af r19)) (by first | (simp only [slr];done) | (simp [A4,V.fz,Ab,slr];done) | (simp [A4,V.fz,fzL,Ab,slr];done))<|CallQ.o (slr false 1 (slr false 1 Af)) (by rfl) h (fun r h=>Acd h) (fun r20 h=> ?_)
  refine Len.map<|Len.map<|Br.od h (fun p21 h=> ?_) (fun p21 h=> ?_)
  ·refine BslQ.o (slr false 1 Af) [r19] (by exact fun _=>⟨rfl,rfl⟩) (by first | rfl | (simp only [Aa,V.fz,fzL,V.up,upL,Ab,Ac,Ad,slr,List.cons_append,List.nil_append];done) | simp [Aa,V.fz,fzL,V.up,upL,Ab,Ac,Ad,slr])<|NoOwn.o (fun _=>rfl)<|AppQ.o (m:=1) (slr false 1 Af) (by exact fun _=>⟨rfl,rfl⟩) (x9') ([r19]) (by rfl) (by rfl) h fun h=>Ask.o h fun p22 h=> ?_
   cases h;exact ⟨rfl,rfl⟩
  refine Ask.o h fun p23 h=> ?_
  cases h;exact ⟨rfl,rfl⟩
 try dsimp only at h
 cases h;exact ⟨rfl,rfl⟩
noncomputable def Hh (most0:Int) (q8_5:List (List Int)):((List (List Int))×(List (List Int))×Int)→Option (((List (List Int))×(List (List Int))×Int) ⊕ (List (List Int))):=fun (x9,x8,x10)=>
 ((if x10<(↑x9.length:Int) then
 if (↑x8.length:Int)≤most0 then
 some (.inl ())
 else
 some (.inr ())
 else
 some (.inr ()):Option (Unit ⊕ Unit))).bind fun t=>match t with
 | (.inl _)=>((Al (Fy most0 q8_5 x10) ((0:Int),x9,x8)).bind fun (q24_9,q24_8)=>
 ask (InI (x10+(1:Int))) <|
 some (.inl (q24_9,q24_8,x10+(1:Int))))
 | (.inr _)=>(some (.inr x8))
def M7 (most0:Int) (q8_5:List (List Int)):((List (List Int))×(List (List Int))×Int)→St:=fun s=>[(9,A.val ((slr true 1 (slr false 1 Af)) s.1)),(8,A.val ((slr false 1 (slr false 1 Af)) s.2.1)),(10,A.val (Af s.2.2)),(5,A.val ((slr false 1 (slr false 1 Af)) (q8_5))),(1,A.val (Af (most0)))]
def Tx (_most0:Int) (_q8_5:List (List Int)):(List (List Int))→Tgt
 | s=>((Ex.exit 4),[8],[(8,A.val ((slr false 1 (slr false 1 Af)) s))])
theorem Ael {most0:Int} {q8_5:List (List Int)} (s:((List (List Int))×(List (List Int))×Int)) (o:((List (List Int))×(List (List Int))×Int) ⊕ (List (List Int))) (h:Hh most0 q8_5 s=some o):vc Tryz.prog Up (Dl [9,8,10,5,1] (M7 most0 q8_5) (Tx most0 q8_5) o) (M7 most0 q8_5 s):=by
 obtain ⟨x9,x8,x10⟩:=s
 unfold Hh at h
 try dsimp only at h
 refine CutQ.o (fun t:(Unit ⊕ Unit)=>match t with | (.inl s)=>(Ex.normal,[9,8,10,5,1],[(9,A.val ((slr true 1 (slr false 1 Af)) (x9))),(8,A.val ((slr false 1 (slr false 1 Af)) (x8))),(10,A.val (Af (x10))),(5,A.val ((slr false 1 (slr false 1 Af)) (q8_5))),(1,A.val (Af (most0)))]) | (.inr s)=>((Ex.exit 4),[8],[(8,A.val ((slr false 1 (slr false 1 Af)) (x8)))])) h ?_ ?_
 ·intro t h
  refine Len.map<|Br.od h (fun p11 h=> ?_) (fun p11 h=> ?_)
  ·refine Br.yes<|Len.map<|Br.yes<|Br.yes<|Br.yes<|Br.od h (fun p12 h=> ?_) (fun p12 h=> ?_)
   ·cases h;exact ⟨rfl,rfl⟩
   cases h;exact ⟨rfl,rfl⟩
  refine Br.no<|Br.no<|Br.no<|Br.no<|Br.no ?_
  cases h;exact ⟨rfl,rfl⟩
 rintro (⟨⟩ | ⟨⟩) h
 ·try dsimp only at h
  refine LoopQ.o [11,9,8,10,5,1] (Nb most0 q8_5 x10) (Uy most0 q8_5 x10) h (fun s o h=>Aei s o h) (by rfl) (fun _=>rfl) ?_
  rintro ⟨q24_9,q24_8⟩ h
  try dsimp only at h
  refine Ask.o h fun p25 h=> ?_
  cases h;exact ⟨rfl,rfl⟩
 try dsimp only at h
 cases h;exact ⟨rfl,rfl⟩
noncomputable def Cj (a0:SAlgebra) (most0:Int):Option (List (List Int)):=
 (Al (Hd a0 most0) (Aw (List Int),(0:Int))).bind fun q8_5=>
 (Cs (a0.Size)).bind fun r9=>
 (Cs (a0.Size)).bind fun r10=>
 (Al (Hh most0 q8_5) ([r10],[r9],(0:Int))).bind fun q26_8=>
 some q26_8
theorem Z1 {a0:SAlgebra} {most0:Int} {v:(List (List Int))} (h:Cj a0 most0=some v):Ret Tryz.prog Nl [(Ai false) a0,Af most0] ((slr false 1 (slr false 1 Af)) v):=by
 refine A5 Ama (Nat.le_of_ble_eq_true rfl) ?_
 unfold Cj at h
 refine BslQ.o (slr true 1 Af) (Aw (List Int)) (by exact fun _=>⟨rfl,rfl⟩) (by first | rfl | (simp only [Aa,V.fz,fzL,V.up,upL,Ab,Ac,Ad,slr,List.cons_append,List.nil_append];done) | simp [Aa,V.fz,fzL,V.up,upL,Ab,Ac,Ad,slr])<|FrzQ.d (V.sl false (1:Nat) (List.map (slr false (1:Nat) Af) (Aw (List Int)))) (by first | (simp only [A4,Ac,slr];done) | (simp [A4,V.fz];done) | (simp [A4,V.fz,fzL];done))<|LoopQ.o [5,6,2,1] (Mn a0 most0) (Ve a0 most0) h (fun s o h=>Ae3 s o h) (by rfl) (fun _=>rfl) ?_
 rintro q8_5 h
 try dsimp only at h
 refine Cells.lit rfl rfl<|CallQ.o (slr true 1 Af) (by rfl) h (fun r h=>Gv h) (fun r9 h=> ?_)
 refine BslQ.o (slr true 1 Af) [r9] (by exact fun _=>⟨rfl,rfl⟩) (by first | rfl | (simp only [Aa,V.fz,fzL,V.up,upL,Ab,Ac,Ad,slr,List.cons_append,List.nil_append];done) | simp [Aa,V.fz,fzL,V.up,upL,Ab,Ac,Ad,slr])<|Cells.lit rfl rfl<|CallQ.o (slr true 1 Af) (by rfl) h (fun r h=>Gv h) (fun r10 h=> ?_)
 refine BslQ.o (slr true 1 Af) [r10] (by exact fun _=>⟨rfl,rfl⟩) (by first | rfl | (simp only [Aa,V.fz,fzL,V.up,upL,Ab,Ac,Ad,slr,List.cons_append,List.nil_append];done) | simp [Aa,V.fz,fzL,V.up,upL,Ab,Ac,Ad,slr])<|FrzQ.d (V.sl false (1:Nat) (List.map (slr false (1:Nat) Af) [r9])) (by first | (simp only [A4,Ac,slr];done) | (simp [A4,V.fz,slr];done) | (simp [A4,V.fz,fzL,Ab,slr];done))<|FrzQ.d (V.sl true (1:Nat) (List.map (slr false (1:Nat) Af) [r10])) (by first | (simp only [V.fzAt,Rf,Ab];done) | exact Eq.trans (b:=V.sl true (1:Nat) (List.map (slr false (1:Nat) Af) [r10])) rfl (by simp only [Ac]))<|LoopQ.o [9,8,10,5,1] (M7 most0 q8_5) (Tx most0 q8_5) h (fun s o h=>Ael s o h) (by rfl) (fun _=>rfl) ?_
 rintro q26_8 h
 try dsimp only at h
 cases h;exact (by rfl)
noncomputable def C3 (a0:SAlgebra):Option Bool:=
 (Js (a0)).bind fun r1=>
 if (r1)=true then
 (Cj (a0) ((200:Int))).bind fun r3=>
 some (decide ((↑r3.length:Int)≤(200:Int)))
 else
 some false
theorem L2 {a0:SAlgebra} {v:Bool} (h:C3 a0=some v):Ret Tryz.prog Hl [(Ai false) a0] (V.bool v):=by
 refine A5 Apn (Nat.le_of_ble_eq_true rfl) ?_
 unfold C3 at h
 refine Cells.lit rfl rfl<|CallQ.o V.bool (by rfl) h (fun r h=>Amj h) (fun r1 h=> ?_)
 refine Br.ob h (fun p2 h=> ?_) (fun p2 h=> ?_)
 ·refine Cells.lit rfl rfl<|Br.yes<|CallQ.o (slr false 1 (slr false 1 Af)) (by rfl) h (fun r h=>Z1 h) (fun r3 h=> ?_)
  refine Br.yes<|Len.map<|Br.yes<|Br.yes ?_
  cases h;exact (by rfl)
 refine Br.no<|Br.no<|Br.no<|Br.no ?_
 cases h;exact (by rfl)
noncomputable def Fr (a0:SAlgebra):Option (List (List Int)):=
 (Cj (a0) ((5000:Int))).bind fun r1=>
 some r1
theorem Ln {a0:SAlgebra} {v:(List (List Int))} (h:Fr a0=some v):Ret Tryz.prog Hm [(Ai false) a0] ((slr false 1 (slr false 1 Af)) v):=by
 refine A5 Ao6 (Nat.le_of_ble_eq_true rfl) ?_
 unfold Fr at h
 refine Cells.lit rfl rfl<|CallQ.o (slr false 1 (slr false 1 Af)) (by rfl) h (fun r h=>Z1 h) (fun r1 h=> ?_)
 cases h;exact (by rfl)
noncomputable def Fi (a0:SAlgebra):Option (Bool×Bool):=
 (C3 (a0)).bind fun r1=>
 if (r1)=true then
 (Fr (a0)).bind fun r3=>
 some ((↑r3.length:Int)==(2:Int),true)
 else
 some (false,false)
theorem Agv {a0:SAlgebra} {v:(Bool×Bool)} (h:Fi a0=some v):Ret Tryz.prog Oz [(Ai false) a0] ((fun r=>V.tup [V.bool r.1,V.bool r.2]) v):=by
 refine A5 Ahj (Nat.le_of_ble_eq_true rfl) ?_
 unfold Fi at h
 refine Cells.lit rfl rfl<|CallQ.o V.bool (by rfl) h (fun r h=>L2 h) (fun r1 h=> ?_)
 refine Br.flip<|Br.ob h (fun p2 h=> ?_) (fun p2 h=> ?_)
 ·refine Cells.lit rfl rfl<|CallQ.o (slr false 1 (slr false 1 Af)) (by rfl) h (fun r h=>Ln h) (fun r3 h=> ?_)
  refine Len.map ?_
  cases h;exact (by rfl)
 cases h;exact (by rfl)
noncomputable def Bv (a0:SAlgebra):Option (Int×Bool):=
 (C3 (a0)).bind fun r1=>
 if (r1)=true then
 (Fr (a0)).bind fun r3=>
 (H3 (r3)).bind fun r4=>
 some (r4,true)
 else
 some ((0:Int),false)
theorem R6 {a0:SAlgebra} {v:(Int×Bool)} (h:Bv a0=some v):Ret Tryz.prog Gh [(Ai false) a0] ((fun r=>V.tup [Af r.1,V.bool r.2]) v):=by
 refine A5 R7 (Nat.le_of_ble_eq_true rfl) ?_
 unfold Bv at h
 refine Cells.lit rfl rfl<|CallQ.o V.bool (by rfl) h (fun r h=>L2 h) (fun r1 h=> ?_)
 refine Br.flip<|Br.ob h (fun p2 h=> ?_) (fun p2 h=> ?_)
 ·refine Cells.lit rfl rfl<|CallQ.o (slr false 1 (slr false 1 Af)) (by rfl) h (fun r h=>Ln h) (fun r3 h=> ?_)
  refine CallQ.o Af (by rfl) h (fun r h=>Ahc h) (fun r4 h=> ?_)
  cases h;exact (by rfl)
 cases h;exact (by rfl)
noncomputable def Ed (a0:SAlgebra):Option ((List (List Int))×Bool):=
 (C3 (a0)).bind fun r1=>
 if (r1)=true then
 (Fr (a0)).bind fun r3=>
 some (r3,true)
 else
 some (Aw (List Int),false)
theorem W8 {a0:SAlgebra} {v:((List (List Int))×Bool)} (h:Ed a0=some v):Ret Tryz.prog Ib [(Ai false) a0] ((fun r=>V.tup [(slr false 1 (slr false 1 Af)) r.1,V.bool r.2]) v):=by
 refine Rk W0 (Nat.le_of_ble_eq_true rfl) ?_
 unfold Ed at h
 refine Cells.lit rfl rfl<|CallQ.o V.bool (by rfl) h (fun r h=>L2 h) (fun r1 h=> ?_)
 refine Br.flip<|Br.ob h (fun p2 h=> ?_) (fun p2 h=> ?_)
 ·refine Cells.lit rfl rfl<|CallQ.o (slr false 1 (slr false 1 Af)) (by rfl) h (fun r h=>Ln h) (fun r3 h=> ?_)
  cases h;exact (by rfl)
 refine BslQ.o (slr true 1 Af) (Aw (List Int)) (by exact fun _=>⟨rfl,rfl⟩) (by first | rfl | (simp only [Aa,V.fz,fzL,V.up,upL,Ab,Ac,Ad,slr,List.cons_append,List.nil_append];done) | simp [Aa,V.fz,fzL,V.up,upL,Ab,Ac,Ad,slr]) ?_
 cases h;exact (by rfl)
noncomputable def C7 (a0:SAlgebra):Option ((List (List Int))×Bool):=
 (C3 (a0)).bind fun r1=>
 if (r1)=true then
 (Fr (a0)).bind fun r3=>
 (Cs (a0.Size)).bind fun r4=>
 (Gk (r3) (r4)).bind fun r5=>
 some (r5,true)
 else
 some (Aw (List Int),false)
theorem R8 {a0:SAlgebra} {v:((List (List Int))×Bool)} (h:C7 a0=some v):Ret Tryz.prog Gi [(Ai false) a0] ((fun r=>V.tup [(slr false 1 (slr false 1 Af)) r.1,V.bool r.2]) v):=by
 refine Rk Rl (Nat.le_of_ble_eq_true rfl) ?_
 unfold C7 at h
 conv=>whnf
 refine Cells.lit rfl rfl ?_
 conv=>whnf
 refine CallQ.o V.bool (by rfl) h (fun r h=>L2 h) (fun r1 h=> ?_)
 conv=>whnf
 refine Br.flip ?_
 conv=>whnf
 refine Br.ob h (fun p2 h=> ?_) (fun p2 h=> ?_)
 ·conv=>whnf
  refine Cells.lit rfl rfl ?_
  conv=>whnf
  refine CallP.o (slr false 1 (slr false 1 Af)) (by rfl) h (fun r h=>Ln h) (fun r3 h=> ?_)
  conv=>whnf
  refine Cells.lit rfl rfl ?_
  conv=>whnf
  refine CallQ.o (slr false 1 Af) (by rfl) h (fun r h=>Ret.frz (Gv h) (by first | rfl | simp only [V.fz,Ab,slr] | simp [Aa,V.fz,fzL,V.up,upL,Ab,Ac,Ad,slr])) (fun r4 h=> ?_)
  conv=>whnf
  refine CallQ.o (slr true 1 (slr false 1 Af)) (by rfl) h (fun r h=>Wj h) (fun r5 h=> ?_)
  conv=>whnf
  cases h;exact (by first | rfl | simp only [Ah,V.fz,fzL,V.up,Ab,slr] | simp [Ah,Aa,V.fz,fzL,V.up,upL,Ab,Ac,Ad,slr])
 conv=>whnf
 refine BslQ.o (slr true 1 Af) (Aw (List Int)) (by exact fun _=>⟨rfl,rfl⟩) (by first | rfl | (simp only [Aa,V.fz,fzL,V.up,upL,Ab,Ac,Ad,slr,List.cons_append,List.nil_append];done) | simp [Aa,V.fz,fzL,V.up,upL,Ab,Ac,Ad,slr]) ?_
 conv=>whnf
 cases h;exact (by rfl)
noncomputable def Ho (a0:SAlgebra):Option (List Int):=
 (Fr (a0)).bind fun r1=>
 (Cs (a0.Size)).bind fun r2=>
 (Gk (r1) (r2)).bind fun r3=>
 if (↑r3.length:Int)≠(1:Int) then
 some (Aw Int)
 else
 ask ((0:Int)≤(0:Int)∧(0:Int)<(↑r3.length:Int)) <|
 some (nth r3 (Int.toNat (0:Int)))
theorem Abc {a0:SAlgebra} {v:(List Int)} (h:Ho a0=some v):Ret Tryz.prog Kz [(Ai false) a0] ((slr false 1 Af) v):=by
 refine Rk Aap (Nat.le_of_ble_eq_true rfl) ?_
 unfold Ho at h
 refine Cells.lit rfl rfl<|CallQ.o (slr false 1 (slr false 1 Af)) (by rfl) h (fun r h=>Ln h) (fun r1 h=> ?_)
 refine Cells.lit rfl rfl<|CallQ.o (slr false 1 Af) (by rfl) h (fun r h=>Ret.frz (Gv h) (by first | rfl | simp only [V.fz,Ab,slr] | simp [Aa,V.fz,fzL,V.up,upL,Ab,Ac,Ad,slr])) (fun r2 h=> ?_)
 refine CallQ.o (slr true 1 (slr false 1 Af)) (by rfl) h (fun r h=>Wj h) (fun r3 h=> ?_)
 refine Len.map<|Br.on h (fun p4 h=> ?_) (fun p4 h=> ?_)
 ·refine BslQ.o Af (Aw Int) (by exact fun _=>⟨rfl,rfl⟩) (by first | rfl | (simp only [Aa,V.fz,fzL,V.up,upL,Ab,Ac,Ad,slr,List.cons_append,List.nil_append];done) | simp [Aa,V.fz,fzL,V.up,upL,Ab,Ac,Ad,slr]) ?_
  cases h;exact (by rfl)
 refine Len.map<|Ask.o h fun p5 h=>Cells.one (fun _=>⟨rfl,rfl⟩) (by first | omega | (simp [Ap] at * <;> omega)) ?_
 cases h;exact (by rfl)
noncomputable def D0 (a0:SAlgebra):Option ((List Int)×Bool):=
 (C3 (a0)).bind fun r1=>
 if (r1)=true then
 (Ho (a0)).bind fun r3=>
 some (r3,decide ((↑r3.length:Int)>(0:Int)))
 else
 some (Aw Int,false)
theorem Ack {a0:SAlgebra} {v:((List Int)×Bool)} (h:D0 a0=some v):Ret Tryz.prog L1 [(Ai false) a0] ((fun r=>V.tup [(slr false 1 Af) r.1,V.bool r.2]) v):=by
 refine Rk Ac5 (Nat.le_of_ble_eq_true rfl) ?_
 unfold D0 at h
 refine Cells.lit rfl rfl<|CallQ.o V.bool (by rfl) h (fun r h=>L2 h) (fun r1 h=> ?_)
 refine Br.flip<|Br.ob h (fun p2 h=> ?_) (fun p2 h=> ?_)
 ·refine Cells.lit rfl rfl<|CallQ.o (slr false 1 Af) (by rfl) h (fun r h=>Abc h) (fun r3 h=> ?_)
  refine Len.map ?_
  cases h;exact (by rfl)
 refine BslQ.o Af (Aw Int) (by exact fun _=>⟨rfl,rfl⟩) (by first | rfl | (simp only [Aa,V.fz,fzL,V.up,upL,Ab,Ac,Ad,slr,List.cons_append,List.nil_append];done) | simp [Aa,V.fz,fzL,V.up,upL,Ab,Ac,Ad,slr]) ?_
 cases h;exact (by rfl)
end Go.Proofs.YtjcekpmojnnmbaaGreat.Ax
