/-
 What the functions compute, as functions on plain data, and that the program does compute it; written by program.
-/
import Derived.Test.YtmkgjnphianalaaGreatCode
import Derived.Test.YtmkgjnphianalaaGreatG2
import Derived.Test.YtmkgjnphianalaaGreatG3
namespace Go.Proofs.YtmkgjnphianalaaGreat.Ax
open Go
set_option maxRecDepth 100000
set_option maxHeartbeats 4000000
noncomputable def Id (lists0:List (List Int)) (l0:List Int):Int→Option (Int ⊕ Int):=fun x5=>
 if x5>(0:Int) then
 ask (InI (x5-(1:Int))) <|
 ask ((0:Int)≤x5-(1:Int)∧x5-(1:Int)<(↑lists0.length:Int)) <|
 if (↑l0.length:Int)<(↑(nth lists0 (x5-(1:Int)).toNat).length:Int) then
 ask (InI (x5-(1:Int))) <|
 some (.inl (x5-(1:Int)))
 else
 ask (InI (x5-(1:Int))) <|
 ask ((0:Int)≤x5-(1:Int)∧x5-(1:Int)<(↑lists0.length:Int)) <|
 if (↑l0.length:Int)=(↑(nth lists0 (x5-(1:Int)).toNat).length:Int) then
 ask (InI (x5-(1:Int))) <|
 ask ((0:Int)≤x5-(1:Int)∧x5-(1:Int)<(↑lists0.length:Int)) <|
 (Ma (l0) (nth lists0 (x5-(1:Int)).toNat)).bind fun r11=>
 if (r11)=true then
 ask (InI (x5-(1:Int))) <|
 some (.inl (x5-(1:Int)))
 else
 some (.inr x5)
 else
 some (.inr x5)
 else
 some (.inr x5)
def Qc (lists0:List (List Int)) (l0:List Int):Int→St:=fun s=>[(5,A.val (Ag s)),(0,A.val ((slr false 1 (slr false 1 Ag)) (lists0))),(1,A.val ((slr false 1 Ag) (l0)))]
def Y0 (lists0:List (List Int)) (l0:List Int):Int→Tgt
 | s=>((Ex.exit 0),[5,0,1],[(5,A.val (Ag s)),(0,A.val ((slr false 1 (slr false 1 Ag)) (lists0))),(1,A.val ((slr false 1 Ag) (l0)))])
theorem Ajb {lists0:List (List Int)} {l0:List Int} (x5:Int) (o:Int ⊕ Int) (h:Id lists0 l0 x5=some o):vc Tryz.prog Xd (Cr [5,0,1] (Qc lists0 l0) (Y0 lists0 l0) o) (Qc lists0 l0 x5):=by
 unfold Id at h
 try dsimp only at h
 refine Br.od h (fun p1 h=> ?_) (fun p1 h=> ?_)
 ·refine Br.yes<|Len.map<|Br.yes<|Br.yes<|Br.yes<|Ask.o h fun p2 h=>Br.yes<|Len.map<|Ask.o h fun p3 h=>Elem.o (by first | omega | (simp [Aq] at * <;> omega))<|Br.yes<|Br.yes<|Len.map<|Br.yes<|Br.yes<|Br.od h (fun p4 h=> ?_) (fun p4 h=> ?_)
  ·refine Br.yes<|Br.yes<|Br.yes<|Br.yes<|Br.yes<|Br.yes<|Br.yes<|Br.yes<|Br.yes<|Br.yes<|Br.yes<|Br.yes<|Br.yes<|Br.yes<|Ask.o h fun p5 h=> ?_
   cases h;exact ⟨rfl,rfl⟩
  refine Br.no<|Len.map<|Br.no<|Br.no<|Br.no<|Ask.o h fun p6 h=>Br.no<|Len.map<|Ask.o h fun p7 h=>Elem.o (by first | omega | (simp [Aq] at * <;> omega))<|Br.no<|Br.no<|Len.map<|Br.no<|Br.no<|Br.oe h (fun p8 h=> ?_) (fun p8 h=> ?_)
  ·refine Br.yes<|Br.yes<|Br.yes<|Ask.o h fun p9 h=>Br.yes<|Len.map<|Ask.o h fun p10 h=>Elem.o (by first | omega | (simp [Aq] at * <;> omega))<|Br.yes<|Br.yes<|CallQ.o V.bool (by rfl) h (fun r h=>Arp h) (fun r11 h=> ?_)
   refine Br.no<|Br.yes<|Br.yes<|Br.no<|Br.yes<|Br.ob h (fun p12 h=> ?_) (fun p12 h=> ?_)
   ·refine Ask.o h fun p13 h=> ?_
    cases h;exact ⟨rfl,rfl⟩
   cases h;exact ⟨rfl,rfl⟩
  refine Br.no<|Br.no<|Br.no<|Br.no<|Br.no<|Br.no<|Br.no<|Br.no<|Br.yes<|Br.no<|Br.yes<|Br.no ?_
  cases h;exact ⟨rfl,rfl⟩
 refine Br.no<|Br.no<|Br.no<|Br.no<|Br.no<|Br.no<|Br.no<|Br.no<|Br.no<|Br.no<|Br.no<|Br.no ?_
 cases h;exact ⟨rfl,rfl⟩
noncomputable def L1 (lists0:(List (List Int))) (l0:(List Int)):Option (List (List Int)):=
 (Aj (Id lists0 l0) (↑lists0.length:Int)).bind fun q14_5=>
 ask (0≤(0:Int)∧(0:Int)≤q14_5∧q14_5≤((lists0.length:Nat):Int)) <|
 ask ((Al (List Int)).length+(List.take (q14_5.toNat-Int.toNat (0:Int)) (List.drop (Int.toNat (0:Int)) lists0)).length≤LIM) <|
 ask ((Al (List Int)++List.take (q14_5.toNat-Int.toNat (0:Int)) (List.drop (Int.toNat (0:Int)) lists0)).length+([l0]).length≤LIM) <|
 ask (0≤q14_5∧q14_5≤(↑lists0.length:Int)∧(↑lists0.length:Int)≤((lists0.length:Nat):Int)) <|
 ask ((Al (List Int)++List.take (q14_5.toNat-Int.toNat (0:Int)) (List.drop (Int.toNat (0:Int)) lists0)++[l0]).length+(List.take ((↑lists0.length:Int).toNat-q14_5.toNat) (List.drop q14_5.toNat lists0)).length≤LIM) <|
 some (Al (List Int)++List.take (q14_5.toNat-Int.toNat (0:Int)) (List.drop (Int.toNat (0:Int)) lists0)++[l0]++List.take ((↑lists0.length:Int).toNat-q14_5.toNat) (List.drop q14_5.toNat lists0))
theorem Aqc {lists0:(List (List Int))} {l0:(List Int)} {v:(List (List Int))} (h:L1 lists0 l0=some v):Ret Tryz.prog Wq [(slr false 1 (slr false 1 Ag)) lists0,(slr false 1 Ag) l0] ((slr true 1 (slr false 1 Ag)) v):=by
 refine A6 Aqm (Nat.le_of_ble_eq_true rfl) ?_
 unfold L1 at h
 refine Len.map<|LoopQ.o [5,0,1] (Qc lists0 l0) (Y0 lists0 l0) h (fun s o h=>Ajb s o h) (by rfl) (fun _=>rfl) ?_
 rintro q14_5 h
 try dsimp only at h
 refine BslQ.o (slr true 1 Ag) (Al (List Int)) (by exact fun _=>⟨rfl,rfl⟩) (by first | rfl | (simp only [Aa,V.fz,fzL,V.up,upL,Ab,Ac,Ad,slr,List.cons_append,List.nil_append];done) | simp [Aa,V.fz,fzL,V.up,upL,Ab,Ac,Ad,slr])<|SlcQ.o (slr false 1 Ag) h fun h=>AppQ.o (m:=1) (slr false 1 Ag) (by exact fun _=>⟨rfl,rfl⟩) (Al (List Int)) (List.take (q14_5.toNat-Int.toNat (0:Int)) (List.drop (Int.toNat (0:Int)) lists0)) (by rfl) (by rfl) h fun h=>BslQ.o (slr false 1 Ag) [l0] (by exact fun _=>⟨rfl,rfl⟩) (by first | rfl | (simp only [Aa,V.fz,fzL,V.up,upL,Ab,Ac,Ad,slr,List.cons_append,List.nil_append];done) | simp [Aa,V.fz,fzL,V.up,upL,Ab,Ac,Ad,slr])<|NoOwn.o (fun _=>rfl)<|AppQ.o (m:=1) (slr false 1 Ag) (by exact fun _=>⟨rfl,rfl⟩) (Al (List Int)++List.take (q14_5.toNat-Int.toNat (0:Int)) (List.drop (Int.toNat (0:Int)) lists0)) ([l0]) (by rfl) (by rfl) h fun h=>Len.map<|SlcQ.o (slr false 1 Ag) h fun h=>AppQ.o (m:=1) (slr false 1 Ag) (by exact fun _=>⟨rfl,rfl⟩) (Al (List Int)++List.take (q14_5.toNat-Int.toNat (0:Int)) (List.drop (Int.toNat (0:Int)) lists0)++[l0]) (List.take ((↑lists0.length:Int).toNat-q14_5.toNat) (List.drop q14_5.toNat lists0)) (by rfl) (by rfl) h fun h=> ?_
 cases h;exact (by rfl)
noncomputable def Fh (_a0:SAlgebra) (in0:List Bool) (_x6:Int) (_x7:Int) (_x5':List Bool) (r5:List Int):(Int×Bool)→Option ((Int×Bool) ⊕ Bool):=fun (x10,x9)=>
 if x10<(↑r5.length:Int) then
 if (x9)=true then
 ask ((0:Int)≤x10∧x10<(↑r5.length:Int)) <|
 ask ((0:Int)≤nth r5 x10.toNat∧nth r5 x10.toNat<(↑in0.length:Int)) <|
 ask (InI (x10+(1:Int))) <|
 some (.inl (x10+(1:Int),nth in0 (nth r5 x10.toNat).toNat))
 else
 ask (InI (x10+(1:Int))) <|
 some (.inl (x10+(1:Int),false))
 else
 some (.inr x9)
def Po (a0:SAlgebra) (in0:List Bool) (x6:Int) (x7:Int) (x5':List Bool) (r5:List Int):(Int×Bool)→St:=fun s=>[(10,A.val (Ag s.1)),(9,A.val (V.bool s.2)),(8,A.val ((slr true 1 Ag) (r5))),(7,A.val (Ag (x7))),(6,A.val (Ag (x6))),(5,A.val ((slr true 1 V.bool) (x5'))),(2,A.val ((rP true (Ae false)) (a0))),(1,A.val ((slr false 1 V.bool) (in0)))]
def Y1 (a0:SAlgebra) (in0:List Bool) (x6:Int) (x7:Int) (x5':List Bool) (_r5:List Int):Bool→Tgt
 | s=>((Ex.exit 4),[9,7,6,5,2,1],[(9,A.val (V.bool s)),(7,A.val (Ag (x7))),(6,A.val (Ag (x6))),(5,A.val ((slr true 1 V.bool) (x5'))),(2,A.val ((rP true (Ae false)) (a0))),(1,A.val ((slr false 1 V.bool) (in0)))])
theorem Ai0 {a0:SAlgebra} {in0:List Bool} {x6:Int} {x7:Int} {x5':List Bool} {r5:List Int} (s:(Int×Bool)) (o:(Int×Bool) ⊕ Bool) (h:Fh a0 in0 x6 x7 x5' r5 s=some o):vc Tryz.prog Y3 (Cr [10,9,8,7,6,5,2,1] (Po a0 in0 x6 x7 x5' r5) (Y1 a0 in0 x6 x7 x5' r5) o) (Po a0 in0 x6 x7 x5' r5 s):=by
 obtain ⟨x10,x9⟩:=s
 unfold Fh at h
 try dsimp only at h
 refine Len.map<|Br.od h (fun p6 h=> ?_) (fun p6 h=> ?_)
 ·refine Br.ob h (fun p7 h=> ?_) (fun p7 h=> ?_)
  ·refine Br.yes<|Br.yes<|Br.yes<|Len.map<|Ask.o h fun p8 h=>Br.yes<|Cells.one (fun _=>⟨rfl,rfl⟩) (by first | omega | (simp [Aq] at * <;> omega))<|Br.yes<|Len.map<|Ask.o h fun p9 h=>Elem.o (by first | omega | (simp [Aq] at * <;> omega))<|Br.yes<|Br.yes<|Ask.o h fun p10 h=> ?_
   cases h;exact ⟨rfl,rfl⟩
  refine Br.no<|Br.no<|Br.no<|Br.no<|Br.no<|Br.no<|Br.no<|Ask.o h fun p11 h=> ?_
  cases h;exact ⟨rfl,rfl⟩
 cases h;exact ⟨rfl,rfl⟩
noncomputable def Gl (a0:SAlgebra) (in0:List Bool) (x6:Int):(Int×(List Bool))→Option ((Int×(List Bool)) ⊕ (List Bool)):=fun (x7,x5')=>
 ask ((0:Int)≤x6∧x6<(↑a0.Ops.length:Int)) <|
 if x7<(↑(nth a0.Ops x6.toNat).Table.length:Int) then
 ask ((0:Int)≤x6∧x6<(↑a0.Ops.length:Int)) <|
 (Fi (a0.Size) ((nth a0.Ops x6.toNat).Arity) (x7)).bind fun r5=>
 (Aj (Fh a0 in0 x6 x7 x5' r5) ((0:Int),true)).bind fun q12_9=>
 if (q12_9)=true then
 ask ((0:Int)≤x6∧x6<(↑a0.Ops.length:Int)) <|
 ask ((0:Int)≤x7∧x7<(↑(nth a0.Ops x6.toNat).Table.length:Int)) <|
 ask ((0:Int)≤nth (nth a0.Ops x6.toNat).Table x7.toNat∧nth (nth a0.Ops x6.toNat).Table x7.toNat<(↑x5'.length:Int)) <|
 ask (InI (x7+(1:Int))) <|
 some (.inl (x7+(1:Int),x5'.set (nth (nth a0.Ops x6.toNat).Table x7.toNat).toNat true))
 else
 ask (InI (x7+(1:Int))) <|
 some (.inl (x7+(1:Int),x5'))
 else
 some (.inr x5')
def P6 (a0:SAlgebra) (in0:List Bool) (x6:Int):(Int×(List Bool))→St:=fun s=>[(7,A.val (Ag s.1)),(6,A.val (Ag (x6))),(5,A.val ((slr true 1 V.bool) s.2)),(2,A.val ((rP true (Ae false)) (a0))),(1,A.val ((slr false 1 V.bool) (in0)))]
def X7 (a0:SAlgebra) (in0:List Bool) (x6:Int):(List Bool)→Tgt
 | s=>((Ex.exit 2),[6,5,2,1],[(6,A.val (Ag (x6))),(5,A.val ((slr true 1 V.bool) s)),(2,A.val ((rP true (Ae false)) (a0))),(1,A.val ((slr false 1 V.bool) (in0)))])
theorem Ajw {a0:SAlgebra} {in0:List Bool} {x6:Int} (s:(Int×(List Bool))) (o:(Int×(List Bool)) ⊕ (List Bool)) (h:Gl a0 in0 x6 s=some o):vc Tryz.prog X3 (Cr [7,6,5,2,1] (P6 a0 in0 x6) (X7 a0 in0 x6) o) (P6 a0 in0 x6 s):=by
 obtain ⟨x7,x5'⟩:=s
 unfold Gl at h
 try dsimp only at h
 refine Cells.lit rfl rfl<|Len.map<|Ask.o h fun p2 h=>Elem.o (by first | omega | (simp [Aq] at * <;> omega))<|Len.map<|Br.od h (fun p3 h=> ?_) (fun p3 h=> ?_)
 ·refine Cells.lit rfl rfl<|Cells.lit rfl rfl<|Len.map<|Ask.o h fun p4 h=>Elem.o (by first | omega | (simp [Aq] at * <;> omega))<|CallQ.o (slr true 1 Ag) (by rfl) h (fun r h=>Qo h) (fun r5 h=> ?_)
  refine LoopQ.o [10,9,8,7,6,5,2,1] (Po a0 in0 x6 x7 x5' r5) (Y1 a0 in0 x6 x7 x5' r5) h (fun s o h=>Ai0 s o h) (by rfl) (fun _=>rfl) ?_
  rintro q12_9 h
  try dsimp only at h
  refine Br.ob h (fun p13 h=> ?_) (fun p13 h=> ?_)
  ·refine Cells.lit rfl rfl<|Len.map<|Ask.o h fun p14 h=>Elem.o (by first | omega | (simp [Aq] at * <;> omega))<|Len.map<|Ask.o h fun p15 h=>Elem.o (by first | omega | (simp [Aq] at * <;> omega))<|Len.map<|Ask.o h fun p16 h=>SetKids.one (fun _=>⟨rfl,rfl⟩) (true) (by rfl) (by first | omega | (simp [Aq] at * <;> omega))<|Ask.o h fun p17 h=> ?_
   cases h;exact ⟨rfl,rfl⟩
  refine Ask.o h fun p18 h=> ?_
  cases h;exact ⟨rfl,rfl⟩
 cases h;exact ⟨rfl,rfl⟩
noncomputable def In (a0:SAlgebra) (in0:List Bool):(Int×(List Bool))→Option ((Int×(List Bool)) ⊕ (List Bool)):=fun (x6,x5)=>
 if x6<(↑a0.Ops.length:Int) then
 (Aj (Gl a0 in0 x6) ((0:Int),x5)).bind fun q19_5=>
 ask (InI (x6+(1:Int))) <|
 some (.inl (x6+(1:Int),q19_5))
 else
 some (.inr x5)
def Qg (a0:SAlgebra) (in0:List Bool):(Int×(List Bool))→St:=fun s=>[(6,A.val (Ag s.1)),(5,A.val ((slr true 1 V.bool) s.2)),(2,A.val ((rP true (Ae false)) (a0))),(1,A.val ((slr false 1 V.bool) (in0)))]
def Yk (_a0:SAlgebra) (_in0:List Bool):(List Bool)→Tgt
 | s=>((Ex.exit 0),[5],[(5,A.val ((slr true 1 V.bool) s))])
theorem Aid {a0:SAlgebra} {in0:List Bool} (s:(Int×(List Bool))) (o:(Int×(List Bool)) ⊕ (List Bool)) (h:In a0 in0 s=some o):vc Tryz.prog Yr (Cr [6,5,2,1] (Qg a0 in0) (Yk a0 in0) o) (Qg a0 in0 s):=by
 obtain ⟨x6,x5⟩:=s
 unfold In at h
 try dsimp only at h
 refine Cells.lit rfl rfl<|Len.map<|Br.od h (fun p1 h=> ?_) (fun p1 h=> ?_)
 ·refine LoopQ.o [7,6,5,2,1] (P6 a0 in0 x6) (X7 a0 in0 x6) h (fun s o h=>Ajw s o h) (by rfl) (fun _=>rfl) ?_
  rintro q19_5 h
  try dsimp only at h
  refine Ask.o h fun p20 h=> ?_
  cases h;exact ⟨rfl,rfl⟩
 cases h;exact ⟨rfl,rfl⟩
noncomputable def L3 (a0:SAlgebra) (in0:(List Bool)):Option (List Bool):=
 ask ((Al Bool).length+(in0).length≤LIM) <|
 (Aj (In a0 in0) ((0:Int),Al Bool++in0)).bind fun q21_5=>
 some q21_5
theorem Asw {a0:SAlgebra} {in0:(List Bool)} {v:(List Bool)} (h:L3 a0 in0=some v):Ret Tryz.prog W8 [(Ae false) a0,(slr false 1 V.bool) in0] ((slr true 1 V.bool) v):=by
 refine A6 Ast (Nat.le_of_ble_eq_true rfl) ?_
 unfold L3 at h
 refine BslQ.o V.bool (Al Bool) (by exact fun _=>⟨rfl,rfl⟩) (by first | rfl | (simp only [Aa,V.fz,fzL,V.up,upL,Ab,Ac,Ad,slr,List.cons_append,List.nil_append];done) | simp [Aa,V.fz,fzL,V.up,upL,Ab,Ac,Ad,slr])<|AppQ.o (m:=1) V.bool (by exact fun _=>⟨rfl,rfl⟩) (Al Bool) (in0) (by rfl) (by rfl) h fun h=>LoopQ.o [6,5,2,1] (Qg a0 in0) (Yk a0 in0) h (fun s o h=>Aid s o h) (by rfl) (fun _=>rfl) ?_
 rintro q21_5 h
 try dsimp only at h
 cases h;exact (by rfl)
noncomputable def Qq (op0:SOp):Option SOp:=
 (Iz (op0.Table)).bind fun r1=>
 some ({ Arity:=op0.Arity,Table:=r1 })
theorem Aqi {op0:SOp} {v:SOp} (h:Qq op0=some v):Ret Tryz.prog Ws [(Aw false) op0] ((Aw true) v):=by
 refine A6 Ari (Nat.le_of_ble_eq_true rfl) ?_
 unfold Qq at h
 refine Cells.lit rfl rfl<|Cells.lit rfl rfl<|CallP.o (slr true 1 Ag) (by rfl) h (fun r h=>Ze h) (fun r1 h=> ?_)
 refine SetKids.lit rfl ?_
 cases h;exact (by rfl)
noncomputable def Dc (n0:Int) (list0:List Int):Int→Option (Int ⊕ (Unit ⊕ Unit)):=fun x5=>
 if x5<(↑list0.length:Int) then
 ask ((0:Int)≤x5∧x5<(↑list0.length:Int)) <|
 ask (InI (n0-(1:Int))) <|
 (Ht (nth list0 x5.toNat) ((0:Int)) (n0-(1:Int))).bind fun r4=>
 if (r4)=true then
 ask (InI (x5+(1:Int))) <|
 some (.inl (x5+(1:Int)))
 else
 some (.inr (.inl ()))
 else
 some (.inr (.inr ()))
def La (n0:Int) (list0:List Int):Int→St:=fun s=>[(5,A.val (Ag s)),(0,A.val (Ag (n0))),(1,A.val ((slr false 1 Ag) (list0)))]
def Q8 (_n0:Int) (_list0:List Int):(Unit ⊕ Unit)→Tgt
 | (.inl _s)=>(Ex.ret,[4],[(4,A.val (V.bool (false)))])
 | (.inr _s)=>((Ex.exit 0),[],[])
theorem Acc {n0:Int} {list0:List Int} (x5:Int) (o:Int ⊕ (Unit ⊕ Unit)) (h:Dc n0 list0 x5=some o):vc Tryz.prog Rc (Cr [5,0,1] (La n0 list0) (Q8 n0 list0) o) (La n0 list0 x5):=by
 unfold Dc at h
 try dsimp only at h
 refine Len.map<|Br.od h (fun p1 h=> ?_) (fun p1 h=> ?_)
 ·refine Len.map<|Ask.o h fun p2 h=>Elem.o (by first | omega | (simp [Aq] at * <;> omega))<|Ask.o h fun p3 h=>CallQ.o V.bool (by rfl) h (fun r h=>Ro h) (fun r4 h=> ?_)
  refine Br.flip<|Br.ob h (fun p5 h=> ?_) (fun p5 h=> ?_)
  ·refine Ask.o h fun p6 h=> ?_
   cases h;exact ⟨rfl,rfl⟩
  cases h;exact ⟨rfl,rfl⟩
 cases h;exact ⟨rfl,rfl⟩
noncomputable def Hl (n0:Int) (list0:(List Int)):Option Bool:=
 (Aj (Dc n0 list0) (0:Int)).bind fun t=>match t with
 | (.inl _)=>(some false)
 | (.inr _)=>(some true)
theorem Ag1 {n0:Int} {list0:(List Int)} {v:Bool} (h:Hl n0 list0=some v):Ret Tryz.prog Nq [Ag n0,(slr false 1 Ag) list0] (V.bool v):=by
 refine A6 Agp (Nat.le_of_ble_eq_true rfl) ?_
 unfold Hl at h
 refine LoopQ.o [5,0,1] (La n0 list0) (Q8 n0 list0) h (fun s o h=>Acc s o h) (by rfl) (by rintro (_ | _)<;>rfl) ?_
 rintro (⟨⟩ | ⟨⟩) h
 ·try dsimp only at h
  cases h;exact (by rfl)
 try dsimp only at h
 cases h;exact (by rfl)
noncomputable def C0 (a0:SAlgebra) (b0:SAlgebra) (x17:Int):(Int×Bool×(List Int))→Option ((Int×Bool×(List Int)) ⊕ ((List Int) ⊕ (Bool×(List Int)))):=fun (x25,x7'',x72'')=>
 if x25<(↑(nth a0.Ops x17.toNat).Table.length:Int) then
 ask ((0:Int)≤x25∧x25<(↑(nth a0.Ops x17.toNat).Table.length:Int)) <|
 (Jh (x25) ((nth a0.Ops x17.toNat).Arity) (a0.Size) (x72'')).bind fun r6=>
 if (r6)=true then
 ask ((0:Int)≤x17∧x17<(↑b0.Ops.length:Int)) <|
 (Do (x25) ((nth a0.Ops x17.toNat).Arity) (a0) (b0) (x72'')).bind fun r9=>
 ask ((0:Int)≤r9∧r9<(↑(nth b0.Ops x17.toNat).Table.length:Int)) <|
 ask ((0:Int)≤nth (nth a0.Ops x17.toNat).Table x25.toNat∧nth (nth a0.Ops x17.toNat).Table x25.toNat<(↑x72''.length:Int)) <|
 if nth x72'' (nth (nth a0.Ops x17.toNat).Table x25.toNat).toNat<(0:Int) then
 ask ((0:Int)≤nth (nth a0.Ops x17.toNat).Table x25.toNat∧nth (nth a0.Ops x17.toNat).Table x25.toNat<(↑x72''.length:Int)) <|
 ask (InI (x25+(1:Int))) <|
 some (.inl (x25+(1:Int),true,x72''.set (nth (nth a0.Ops x17.toNat).Table x25.toNat).toNat (nth (nth b0.Ops x17.toNat).Table r9.toNat)))
 else
 ask ((0:Int)≤nth (nth a0.Ops x17.toNat).Table x25.toNat∧nth (nth a0.Ops x17.toNat).Table x25.toNat<(↑x72''.length:Int)) <|
 if nth x72'' (nth (nth a0.Ops x17.toNat).Table x25.toNat).toNat≠nth (nth b0.Ops x17.toNat).Table r9.toNat then
 some (.inr (.inl x72''))
 else
 ask (InI (x25+(1:Int))) <|
 some (.inl (x25+(1:Int),x7'',x72''))
 else
 ask (InI (x25+(1:Int))) <|
 some (.inl (x25+(1:Int),x7'',x72''))
 else
 some (.inr (.inr (x7'',x72'')))
def Mo (a0:SAlgebra) (b0:SAlgebra) (x17:Int):(Int×Bool×(List Int))→St:=fun s=>[(25,A.val (Ag s.1)),(24,A.val (Ag ((↑(nth a0.Ops x17.toNat).Table.length:Int)))),(23,A.val ((slr false 1 Ag) ((nth a0.Ops x17.toNat).Table))),(8,A.val (Ag (x17))),(9,A.val ((rP true (Aw false)) (nth a0.Ops x17.toNat))),(17,A.val (Ag (x17))),(16,A.val (Ag ((↑a0.Ops.length:Int)))),(15,A.val ((slr false 2 (Aw false)) (a0.Ops))),(7,A.val (V.bool s.2.1)),(4,A.val ((rP true (Ae false)) (b0))),(3,A.val ((rP true (Ae false)) (a0))),(2,A.ref 72 []),(72,A.val ((slr true 1 Ag) s.2.2))]
def Ur (a0:SAlgebra) (b0:SAlgebra) (x17:Int):((List Int) ⊕ (Bool×(List Int)))→Tgt
 | (.inl s)=>(Ex.ret,[6,72],[(6,A.val (V.bool (false))),(72,A.val ((slr true 1 Ag) s))])
 | (.inr s)=>((Ex.exit 4),[17,16,15,7,4,3,2,72],[(17,A.val (Ag (x17))),(16,A.val (Ag ((↑a0.Ops.length:Int)))),(15,A.val ((slr false 2 (Aw false)) (a0.Ops))),(7,A.val (V.bool s.1)),(4,A.val ((rP true (Ae false)) (b0))),(3,A.val ((rP true (Ae false)) (a0))),(2,A.ref 72 []),(72,A.val ((slr true 1 Ag) s.2))])
theorem Afh {a0:SAlgebra} {b0:SAlgebra} {x17:Int} (s:(Int×Bool×(List Int))) (o:(Int×Bool×(List Int)) ⊕ ((List Int) ⊕ (Bool×(List Int)))) (h:C0 a0 b0 x17 s=some o):vc Tryz.prog To (Cr [25,24,23,8,9,17,16,15,7,4,3,2,72] (Mo a0 b0 x17) (Ur a0 b0 x17) o) (Mo a0 b0 x17 s):=by
 obtain ⟨x25,x7'',x72''⟩:=s
 unfold C0 at h
 try dsimp only at h
 refine Br.od h (fun p4 h=> ?_) (fun p4 h=> ?_)
 ·refine Len.map<|Ask.o h fun p5 h=>Elem.o (by first | omega | (simp [Aq] at * <;> omega))<|Cells.lit rfl rfl<|Cells.lit rfl rfl<|CallQ.rd V.bool (by first | rfl | simp only [V.fz,V.up,Ab,Ad,slr] | simp [Aa,V.fz,fzL,V.up,upL,Ab,Ac,Ad,slr]) (fun _=>rfl) h (fun r h=>Ama h) (fun r6 h=> ?_)
  refine Br.flip<|Br.ob h (fun p7 h=> ?_) (fun p7 h=> ?_)
  ·refine Cells.lit rfl rfl<|Len.map<|Ask.o h fun p8 h=>Elem.o (by first | omega | (simp [Aq] at * <;> omega))<|Cells.lit rfl rfl<|Cells.lit rfl rfl<|Cells.lit rfl rfl<|CallP.rd Ag (by first | rfl | simp only [V.fz,fzL,V.up,Ab,Ad,slr] | simp [Aa,V.fz,fzL,V.up,upL,Ab,Ac,Ad,slr]) (fun _=>rfl) h (fun r h=>Wl h) (fun r9 h=> ?_)
   refine Len.map<|Ask.o h fun p10 h=>Elem.o (by first | omega | (simp [Aq] at * <;> omega))<|Len.map<|Ask.o h fun p11 h=>Cells.one (fun _=>⟨rfl,rfl⟩) (by first | omega | (simp [Aq] at * <;> omega))<|Br.od h (fun p12 h=> ?_) (fun p12 h=> ?_)
   ·refine Len.map<|Ask.o h fun p13 h=>SetKids.one (fun _=>⟨rfl,rfl⟩) (nth (nth b0.Ops x17.toNat).Table r9.toNat) (by rfl) (by first | omega | (simp [Aq] at * <;> omega))<|Ask.o h fun p14 h=> ?_
    cases h;exact ⟨rfl,rfl⟩
   refine Len.map<|Ask.o h fun p15 h=>Cells.one (fun _=>⟨rfl,rfl⟩) (by first | omega | (simp [Aq] at * <;> omega))<|Br.on h (fun p16 h=> ?_) (fun p16 h=> ?_)
   ·cases h;exact ⟨rfl,rfl⟩
   refine Ask.o h fun p17 h=> ?_
   cases h;exact ⟨rfl,rfl⟩
  refine Ask.o h fun p18 h=> ?_
  cases h;exact ⟨rfl,rfl⟩
 cases h;exact ⟨rfl,rfl⟩
noncomputable def Cy (a0:SAlgebra) (b0:SAlgebra):(Int×Bool×(List Int))→Option ((Int×Bool×(List Int)) ⊕ ((List Int) ⊕ (Bool×(List Int)))):=fun (x17,x7',x72')=>
 if x17<(↑a0.Ops.length:Int) then
 ask ((0:Int)≤x17∧x17<(↑a0.Ops.length:Int)) <|
 (Aj (C0 a0 b0 x17) ((0:Int),x7',x72')).bind fun t=>match t with
 | (.inl q19_72)=>(some (.inr (.inl q19_72)))
 | (.inr (q19_7,q19_72))=>(ask (InI (x17+(1:Int))) <|
 some (.inl (x17+(1:Int),q19_7,q19_72)))
 else
 some (.inr (.inr (x7',x72')))
def Mw (a0:SAlgebra) (b0:SAlgebra):(Int×Bool×(List Int))→St:=fun s=>[(17,A.val (Ag s.1)),(16,A.val (Ag ((↑a0.Ops.length:Int)))),(15,A.val ((slr false 2 (Aw false)) (a0.Ops))),(7,A.val (V.bool s.2.1)),(4,A.val ((rP true (Ae false)) (b0))),(3,A.val ((rP true (Ae false)) (a0))),(2,A.ref 72 []),(72,A.val ((slr true 1 Ag) s.2.2))]
def Uj (a0:SAlgebra) (b0:SAlgebra):((List Int) ⊕ (Bool×(List Int)))→Tgt
 | (.inl s)=>(Ex.ret,[6,72],[(6,A.val (V.bool (false))),(72,A.val ((slr true 1 Ag) s))])
 | (.inr s)=>((Ex.exit 2),[7,4,3,2,72],[(7,A.val (V.bool s.1)),(4,A.val ((rP true (Ae false)) (b0))),(3,A.val ((rP true (Ae false)) (a0))),(2,A.ref 72 []),(72,A.val ((slr true 1 Ag) s.2))])
theorem Ael {a0:SAlgebra} {b0:SAlgebra} (s:(Int×Bool×(List Int))) (o:(Int×Bool×(List Int)) ⊕ ((List Int) ⊕ (Bool×(List Int)))) (h:Cy a0 b0 s=some o):vc Tryz.prog Ut (Cr [17,16,15,7,4,3,2,72] (Mw a0 b0) (Uj a0 b0) o) (Mw a0 b0 s):=by
 obtain ⟨x17,x7',x72'⟩:=s
 unfold Cy at h
 try dsimp only at h
 refine Br.od h (fun p2 h=> ?_) (fun p2 h=> ?_)
 ·refine Len.map<|Ask.o h fun p3 h=>Elem.o (by first | omega | (simp [Aq] at * <;> omega))<|SetKids.lit rfl<|Cells.lit rfl rfl<|Len.map<|LoopQ.o [25,24,23,8,9,17,16,15,7,4,3,2,72] (Mo a0 b0 x17) (Ur a0 b0 x17) h (fun s o h=>Afh s o h) (by rfl) (by rintro (_ | _)<;>rfl) ?_
  rintro (q19_72 | ⟨q19_7,q19_72⟩) h
  ·try dsimp only at h
   cases h;exact ⟨rfl,rfl⟩
  try dsimp only at h
  refine Ask.o h fun p20 h=> ?_
  cases h;exact ⟨rfl,rfl⟩
 cases h;exact ⟨rfl,rfl⟩
noncomputable def Cw (a0:SAlgebra) (b0:SAlgebra):(Bool×(List Int))→Option ((Bool×(List Int)) ⊕ ((List Int) ⊕ (List Int))):=fun (x7,x72)=>
 if (x7)=true then
 (Aj (Cy a0 b0) ((0:Int),false,x72)).bind fun t=>match t with
 | (.inl q21_72)=>(some (.inr (.inl q21_72)))
 | (.inr (q21_7,q21_72))=>(some (.inl (q21_7,q21_72)))
 else
 some (.inr (.inr x72))
def Mx (a0:SAlgebra) (b0:SAlgebra):(Bool×(List Int))→St:=fun s=>[(7,A.val (V.bool s.1)),(4,A.val ((rP true (Ae false)) (b0))),(3,A.val ((rP true (Ae false)) (a0))),(2,A.ref 72 []),(72,A.val ((slr true 1 Ag) s.2))]
def Up (_a0:SAlgebra) (_b0:SAlgebra):((List Int) ⊕ (List Int))→Tgt
 | (.inl s)=>(Ex.ret,[6,72],[(6,A.val (V.bool (false))),(72,A.val ((slr true 1 Ag) s))])
 | (.inr s)=>((Ex.exit 0),[72],[(72,A.val ((slr true 1 Ag) s))])
theorem Aem {a0:SAlgebra} {b0:SAlgebra} (s:(Bool×(List Int))) (o:(Bool×(List Int)) ⊕ ((List Int) ⊕ (List Int))) (h:Cw a0 b0 s=some o):vc Tryz.prog Tc (Cr [7,4,3,2,72] (Mx a0 b0) (Up a0 b0) o) (Mx a0 b0 s):=by
 obtain ⟨x7,x72⟩:=s
 unfold Cw at h
 try dsimp only at h
 refine Br.ob h (fun p1 h=> ?_) (fun p1 h=> ?_)
 ·refine Cells.lit rfl rfl<|Len.map<|LoopQ.o [17,16,15,7,4,3,2,72] (Mw a0 b0) (Uj a0 b0) h (fun s o h=>Ael s o h) (by rfl) (by rintro (_ | _)<;>rfl) ?_
  rintro (q21_72 | ⟨q21_7,q21_72⟩) h
  ·try dsimp only at h
   cases h;exact ⟨rfl,rfl⟩
  try dsimp only at h
  cases h;exact ⟨rfl,rfl⟩
 cases h;exact ⟨rfl,rfl⟩
noncomputable def Hd (a0:SAlgebra) (b0:SAlgebra) (f0:(List Int)):Option (Bool×(List Int)):=
 (Aj (Cw a0 b0) (true,f0)).bind fun t=>match t with
 | (.inl q22_72)=>(some (false,q22_72))
 | (.inr q22_72)=>(some (true,q22_72))
theorem Ami {a0:SAlgebra} {b0:SAlgebra} {f0:(List Int)} {v:(Bool×(List Int))} (h:Hd a0 b0 f0=some v):I9 Tryz.prog R5 [(Ae false) a0,(Ae false) b0,(slr true 1 Ag) f0] (V.bool v.1) 2 ((slr true 1 Ag) v.2):=by
 refine Lg Ak9 (Nat.le_of_ble_eq_true rfl) ?_
 unfold Hd at h
 refine LoopQ.o [7,4,3,2,72] (Mx a0 b0) (Up a0 b0) h (fun s o h=>Aem s o h) (by rfl) (by rintro (_ | _)<;>rfl) ?_
 rintro (q22_72 | q22_72) h
 ·try dsimp only at h
  cases h;exact ⟨(by rfl),(by rfl)⟩
 try dsimp only at h
 cases h;exact ⟨(by rfl),(by rfl)⟩
end Go.Proofs.YtmkgjnphianalaaGreat.Ax
