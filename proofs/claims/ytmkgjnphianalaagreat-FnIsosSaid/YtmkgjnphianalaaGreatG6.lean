/-
 What the functions compute, as functions on plain data, and that the program does compute it; written by program.
-/
import Derived.Test.YtmkgjnphianalaaGreatCode
import Derived.Test.YtmkgjnphianalaaGreatG1
import Derived.Test.YtmkgjnphianalaaGreatG2
import Derived.Test.YtmkgjnphianalaaGreatG3
namespace Go.Proofs.YtmkgjnphianalaaGreat.Ax
open Go
set_option maxRecDepth 100000
set_option maxHeartbeats 4000000
noncomputable def J9 (f0:(List Int)) (a1:(List (List Int))):Option (Bool×(List (List Int))):=
 (Fj (f0)).bind fun r1=>
 ask ((a1).length+([r1]).length≤LIM) <|
 some (decide ((↑(a1++[r1]).length:Int)≤(300:Int)),a1++[r1])
theorem Ah1 {f0:(List Int)} {a1:(List (List Int))} {v:(Bool×(List (List Int)))} (h:J9 f0 a1=some v):I9 Tryz.prog Hi [(slr false 1 Ag) f0,(rP true (slr true 1 (slr true 1 Ag))) a1] (V.bool v.1) 1 ((rP true (slr true 1 (slr true 1 Ag))) v.2):=by
 refine Lg Af1 (Nat.le_of_ble_eq_true rfl) ?_
 unfold J9 at h
 refine Cells.lit rfl rfl<|CallP.o (slr true 1 Ag) (by rfl) h (fun r h=>Om h) (fun r1 h=> ?_)
 refine BslQ.o (slr true 1 Ag) [r1] (by exact fun _=>⟨rfl,rfl⟩) (by first | rfl | (simp only [Aa,V.fz,fzL,V.up,upL,Ab,Ac,Ad,slr,List.cons_append,List.nil_append];done) | simp [Aa,V.fz,fzL,V.up,upL,Ab,Ac,Ad,slr])<|NoOwn.own rfl<|Kid.lit rfl rfl<|Kid.lit rfl rfl<|SetKids.lit rfl<|AppQ.o (m:=1) (slr true 1 Ag) (by exact fun _=>⟨rfl,rfl⟩) (a1) ([r1]) (by rfl) (by rfl) h fun h=>SetKids.lit rfl<|Cells.lit rfl rfl<|Kid.lit rfl rfl<|Len.map ?_
 cases h;exact ⟨(by rfl),(by rfl)⟩
noncomputable def Gs (n0:Int) (op0:SOp):Int→Option (Int ⊕ (Unit ⊕ Unit)):=fun x5=>
 if x5<(↑op0.Table.length:Int) then
 ask ((0:Int)≤x5∧x5<(↑op0.Table.length:Int)) <|
 ask (InI (n0-(1:Int))) <|
 (Ht (nth op0.Table x5.toNat) ((0:Int)) (n0-(1:Int))).bind fun r9=>
 if (r9)=true then
 ask (InI (x5+(1:Int))) <|
 some (.inl (x5+(1:Int)))
 else
 some (.inr (.inl ()))
 else
 some (.inr (.inr ()))
def Uo (n0:Int) (op0:SOp):Int→St:=fun s=>[(5,A.val (Ag s)),(3,A.val ((rP true (Aw false)) (op0))),(0,A.val (Ag (n0)))]
def Abm (_n0:Int) (_op0:SOp):(Unit ⊕ Unit)→Tgt
 | (.inl _s)=>(Ex.ret,[4],[(4,A.val (V.bool (false)))])
 | (.inr _s)=>((Ex.exit 0),[],[])
theorem Ap5 {n0:Int} {op0:SOp} (x5:Int) (o:Int ⊕ (Unit ⊕ Unit)) (h:Gs n0 op0 x5=some o):vc Tryz.prog Abz (Cr [5,3,0] (Uo n0 op0) (Abm n0 op0) o) (Uo n0 op0 x5):=by
 unfold Gs at h
 try dsimp only at h
 refine Cells.lit rfl rfl<|Len.map<|Br.od h (fun p6 h=> ?_) (fun p6 h=> ?_)
 ·refine Cells.lit rfl rfl<|Len.map<|Ask.o h fun p7 h=>Elem.o (by first | omega | (simp [Aq] at * <;> omega))<|Ask.o h fun p8 h=>CallQ.o V.bool (by rfl) h (fun r h=>Ro h) (fun r9 h=> ?_)
  refine Br.flip<|Br.ob h (fun p10 h=> ?_) (fun p10 h=> ?_)
  ·refine Ask.o h fun p11 h=> ?_
   cases h;exact ⟨rfl,rfl⟩
  cases h;exact ⟨rfl,rfl⟩
 cases h;exact ⟨rfl,rfl⟩
noncomputable def Rd (n0:Int) (op0:SOp):Option Bool:=
 (((Ht (op0.Arity) ((0:Int)) ((3:Int))).bind fun r1=>
 if (r1)=true then
 (Hh (n0) (op0.Arity)).bind fun r3=>
 if (↑op0.Table.length:Int)≠r3 then
 some (.inl ())
 else
 some (.inr ())
 else
 some (.inl ()):Option (Unit ⊕ Unit))).bind fun t=>match t with
 | (.inl _)=>(some false)
 | (.inr _)=>((Aj (Gs n0 op0) (0:Int)).bind fun t=>match t with
 | (.inl _)=>(some false)
 | (.inr _)=>(some true))
theorem Ayg {n0:Int} {op0:SOp} {v:Bool} (h:Rd n0 op0=some v):Ret Tryz.prog Acf [Ag n0,(Aw false) op0] (V.bool v):=by
 refine A6 Ay2 (Nat.le_of_ble_eq_true rfl) ?_
 unfold Rd at h
 refine CutQ.o (fun t:(Unit ⊕ Unit)=>match t with | (.inl s)=>(Ex.ret,[4],[(4,A.val (V.bool (false)))]) | (.inr s)=>(Ex.normal,[3,0],[(3,A.val ((rP true (Aw false)) (op0))),(0,A.val (Ag (n0)))])) h ?_ ?_
 ·intro t h
  refine Cells.lit rfl rfl<|CallP.o V.bool (by rfl) h (fun r h=>Ro h) (fun r1 h=> ?_)
  refine Br.flip<|Br.ob h (fun p2 h=> ?_) (fun p2 h=> ?_)
  ·refine Br.no<|Cells.lit rfl rfl<|Br.no<|Len.map<|Br.no<|Br.no<|Br.no<|Cells.lit rfl rfl<|Br.no<|CallP.o Ag (by rfl) h (fun r h=>Zo h) (fun r3 h=> ?_)
   refine Br.no<|Br.no<|Br.on h (fun p4 h=> ?_) (fun p4 h=> ?_)
   ·cases h;exact ⟨rfl,rfl⟩
   cases h;exact ⟨rfl,rfl⟩
  refine Br.yes<|Br.yes<|Br.yes<|Br.yes<|Br.yes<|Br.yes<|Br.yes<|Br.yes<|Br.yes ?_
  cases h;exact ⟨rfl,rfl⟩
 rintro (⟨⟩ | ⟨⟩) h
 ·try dsimp only at h
  cases h;exact (by rfl)
 try dsimp only at h
 refine LoopQ.o [5,3,0] (Uo n0 op0) (Abm n0 op0) h (fun s o h=>Ap5 s o h) (by rfl) (by rintro (_ | _)<;>rfl) ?_
 rintro (⟨⟩ | ⟨⟩) h
 ·try dsimp only at h
  cases h;exact (by rfl)
 try dsimp only at h
 cases h;exact (by rfl)
noncomputable def Dy (l0:List Int) (lo0:Int) (hi0:Int):Int→Option (Int ⊕ (Unit ⊕ Unit)):=fun x7=>
 if x7<(↑l0.length:Int) then
 ask ((0:Int)≤x7∧x7<(↑l0.length:Int)) <|
 (Ht (nth l0 x7.toNat) (lo0) (hi0)).bind fun r3=>
 if (r3)=true then
 if x7>(0:Int) then
 ask (InI (x7-(1:Int))) <|
 ask ((0:Int)≤x7-(1:Int)∧x7-(1:Int)<(↑l0.length:Int)) <|
 ask ((0:Int)≤x7∧x7<(↑l0.length:Int)) <|
 if nth l0 (x7-(1:Int)).toNat≥nth l0 x7.toNat then
 some (.inr (.inl ()))
 else
 ask (InI (x7+(1:Int))) <|
 some (.inl (x7+(1:Int)))
 else
 ask (InI (x7+(1:Int))) <|
 some (.inl (x7+(1:Int)))
 else
 some (.inr (.inl ()))
 else
 some (.inr (.inr ()))
def M3 (l0:List Int) (lo0:Int) (hi0:Int):Int→St:=fun s=>[(7,A.val (Ag s)),(0,A.val ((slr false 1 Ag) (l0))),(1,A.val (Ag (lo0))),(2,A.val (Ag (hi0)))]
def T5 (_l0:List Int) (_lo0:Int) (_hi0:Int):(Unit ⊕ Unit)→Tgt
 | (.inl _s)=>(Ex.ret,[6],[(6,A.val (V.bool (false)))])
 | (.inr _s)=>((Ex.exit 0),[],[])
theorem Afc {l0:List Int} {lo0:Int} {hi0:Int} (x7:Int) (o:Int ⊕ (Unit ⊕ Unit)) (h:Dy l0 lo0 hi0 x7=some o):vc Tryz.prog Tg (Cr [7,0,1,2] (M3 l0 lo0 hi0) (T5 l0 lo0 hi0) o) (M3 l0 lo0 hi0 x7):=by
 unfold Dy at h
 try dsimp only at h
 refine Len.map<|Br.od h (fun p1 h=> ?_) (fun p1 h=> ?_)
 ·refine Len.map<|Ask.o h fun p2 h=>Elem.o (by first | omega | (simp [Aq] at * <;> omega))<|CallP.o V.bool (by rfl) h (fun r h=>Ro h) (fun r3 h=> ?_)
  refine Br.flip<|Br.ob h (fun p4 h=> ?_) (fun p4 h=> ?_)
  ·refine Br.no<|Br.no<|Br.od h (fun p5 h=> ?_) (fun p5 h=> ?_)
   ·refine Br.yes<|Br.yes<|Ask.o h fun p6 h=>Br.yes<|Len.map<|Ask.o h fun p7 h=>Elem.o (by first | omega | (simp [Aq] at * <;> omega))<|Br.yes<|Br.yes<|Br.yes<|Br.yes<|Len.map<|Ask.o h fun p8 h=>Elem.o (by first | omega | (simp [Aq] at * <;> omega))<|Br.yes<|Br.yes<|Br.no<|Br.yes<|Br.no<|Br.od h (fun p9 h=> ?_) (fun p9 h=> ?_)
    ·cases h;exact ⟨rfl,rfl⟩
    refine Ask.o h fun p10 h=> ?_
    cases h;exact ⟨rfl,rfl⟩
   refine Br.no<|Br.no<|Br.no<|Br.no<|Br.no<|Br.no<|Br.no<|Br.no<|Br.no<|Br.no<|Br.no<|Br.no<|Br.no<|Ask.o h fun p11 h=> ?_
   cases h;exact ⟨rfl,rfl⟩
  refine Br.yes<|Br.yes<|Br.yes<|Br.yes<|Br.yes ?_
  cases h;exact ⟨rfl,rfl⟩
 cases h;exact ⟨rfl,rfl⟩
noncomputable def Ja (l0:(List Int)) (lo0:Int) (hi0:Int):Option Bool:=
 (Aj (Dy l0 lo0 hi0) (0:Int)).bind fun t=>match t with
 | (.inl _)=>(some false)
 | (.inr _)=>(some true)
theorem Alh {l0:(List Int)} {lo0:Int} {hi0:Int} {v:Bool} (h:Ja l0 lo0 hi0=some v):Ret Tryz.prog Rt [(slr false 1 Ag) l0,Ag lo0,Ag hi0] (V.bool v):=by
 refine A6 Als (Nat.le_of_ble_eq_true rfl) ?_
 unfold Ja at h
 refine LoopQ.o [7,0,1,2] (M3 l0 lo0 hi0) (T5 l0 lo0 hi0) h (fun s o h=>Afc s o h) (by rfl) (by rintro (_ | _)<;>rfl) ?_
 rintro (⟨⟩ | ⟨⟩) h
 ·try dsimp only at h
  cases h;exact (by rfl)
 try dsimp only at h
 cases h;exact (by rfl)
noncomputable def D0 (a0:SAlgebra) (names0:List Int) (_x6:Int) (_x5:SAlgebra) (_x8:Int) (_x7:SOp) (r6:List Int):(Int×Int)→Option ((Int×Int) ⊕ Int):=fun (x11,x10)=>
 if x11<(↑r6.length:Int) then
 ask (InI (x10*a0.Size)) <|
 ask ((0:Int)≤x11∧x11<(↑r6.length:Int)) <|
 ask ((0:Int)≤nth r6 x11.toNat∧nth r6 x11.toNat<(↑names0.length:Int)) <|
 ask (InI (x10*a0.Size+nth names0 (nth r6 x11.toNat).toNat)) <|
 ask (InI (x11+(1:Int))) <|
 some (.inl (x11+(1:Int),x10*a0.Size+nth names0 (nth r6 x11.toNat).toNat))
 else
 some (.inr x10)
def Mq (a0:SAlgebra) (names0:List Int) (x6:Int) (x5:SAlgebra) (x8:Int) (x7:SOp) (r6:List Int):(Int×Int)→St:=fun s=>[(11,A.val (Ag s.1)),(10,A.val (Ag s.2)),(9,A.val ((slr true 1 Ag) (r6))),(8,A.val (Ag (x8))),(7,A.val ((rP true (Aw true)) (x7))),(6,A.val (Ag (x6))),(5,A.val ((rP true (Ae true)) (x5))),(4,A.val ((rP true (Ae true)) ({ Size:=(0:Int),Ops:=Al SOp }))),(2,A.val ((rP true (Ae false)) (a0))),(1,A.val ((slr false 1 Ag) (names0)))]
def T3 (a0:SAlgebra) (names0:List Int) (x6:Int) (x5:SAlgebra) (x8:Int) (x7:SOp) (_r6:List Int):Int→Tgt
 | s=>((Ex.exit 4),[10,8,7,6,5,4,2,1],[(10,A.val (Ag s)),(8,A.val (Ag (x8))),(7,A.val ((rP true (Aw true)) (x7))),(6,A.val (Ag (x6))),(5,A.val ((rP true (Ae true)) (x5))),(4,A.val ((rP true (Ae true)) ({ Size:=(0:Int),Ops:=Al SOp }))),(2,A.val ((rP true (Ae false)) (a0))),(1,A.val ((slr false 1 Ag) (names0)))])
theorem Aek {a0:SAlgebra} {names0:List Int} {x6:Int} {x5:SAlgebra} {x8:Int} {x7:SOp} {r6:List Int} (s:(Int×Int)) (o:(Int×Int) ⊕ Int) (h:D0 a0 names0 x6 x5 x8 x7 r6 s=some o):vc Tryz.prog Uk (Cr [11,10,9,8,7,6,5,4,2,1] (Mq a0 names0 x6 x5 x8 x7 r6) (T3 a0 names0 x6 x5 x8 x7 r6) o) (Mq a0 names0 x6 x5 x8 x7 r6 s):=by
 obtain ⟨x11,x10⟩:=s
 unfold D0 at h
 try dsimp only at h
 refine Len.map<|Br.od h (fun p7 h=> ?_) (fun p7 h=> ?_)
 ·refine Cells.lit rfl rfl<|Ask.o h fun p8 h=>Len.map<|Ask.o h fun p9 h=>Cells.one (fun _=>⟨rfl,rfl⟩) (by first | omega | (simp [Aq] at * <;> omega))<|Len.map<|Ask.o h fun p10 h=>Elem.o (by first | omega | (simp [Aq] at * <;> omega))<|Ask.o h fun p11 h=>Ask.o h fun p12 h=> ?_
  cases h;exact ⟨rfl,rfl⟩
 cases h;exact ⟨rfl,rfl⟩
noncomputable def Dz (a0:SAlgebra) (names0:List Int) (x6:Int) (x5:SAlgebra):(Int×SOp)→Option ((Int×SOp) ⊕ SOp):=fun (x8,x7)=>
 if x8<(↑x7.Table.length:Int) then
 (Fi (a0.Size) (x7.Arity) (x8)).bind fun r6=>
 (Aj (D0 a0 names0 x6 x5 x8 x7 r6) ((0:Int),(0:Int))).bind fun q13_10=>
 ask ((0:Int)≤x6∧x6<(↑a0.Ops.length:Int)) <|
 ask ((0:Int)≤x8∧x8<(↑(nth a0.Ops x6.toNat).Table.length:Int)) <|
 ask ((0:Int)≤nth (nth a0.Ops x6.toNat).Table x8.toNat∧nth (nth a0.Ops x6.toNat).Table x8.toNat<(↑names0.length:Int)) <|
 ask ((0:Int)≤q13_10∧q13_10<(↑x7.Table.length:Int)) <|
 ask (InI (x8+(1:Int))) <|
 some (.inl (x8+(1:Int),{ Arity:=x7.Arity,Table:=x7.Table.set q13_10.toNat (nth names0 (nth (nth a0.Ops x6.toNat).Table x8.toNat).toNat) }))
 else
 some (.inr x7)
def M5 (a0:SAlgebra) (names0:List Int) (x6:Int) (x5:SAlgebra):(Int×SOp)→St:=fun s=>[(8,A.val (Ag s.1)),(7,A.val ((rP true (Aw true)) s.2)),(6,A.val (Ag (x6))),(5,A.val ((rP true (Ae true)) (x5))),(4,A.val ((rP true (Ae true)) ({ Size:=(0:Int),Ops:=Al SOp }))),(2,A.val ((rP true (Ae false)) (a0))),(1,A.val ((slr false 1 Ag) (names0)))]
def T6 (a0:SAlgebra) (names0:List Int) (x6:Int) (x5:SAlgebra):SOp→Tgt
 | s=>((Ex.exit 2),[7,6,5,4,2,1],[(7,A.val ((rP true (Aw true)) s)),(6,A.val (Ag (x6))),(5,A.val ((rP true (Ae true)) (x5))),(4,A.val ((rP true (Ae true)) ({ Size:=(0:Int),Ops:=Al SOp }))),(2,A.val ((rP true (Ae false)) (a0))),(1,A.val ((slr false 1 Ag) (names0)))])
theorem Ae4 {a0:SAlgebra} {names0:List Int} {x6:Int} {x5:SAlgebra} (s:(Int×SOp)) (o:(Int×SOp) ⊕ SOp) (h:Dz a0 names0 x6 x5 s=some o):vc Tryz.prog Th (Cr [8,7,6,5,4,2,1] (M5 a0 names0 x6 x5) (T6 a0 names0 x6 x5) o) (M5 a0 names0 x6 x5 s):=by
 obtain ⟨x8,x7⟩:=s
 unfold Dz at h
 try dsimp only at h
 refine Cells.lit rfl rfl<|Kid.lit rfl rfl<|Len.map<|Br.od h (fun p5 h=> ?_) (fun p5 h=> ?_)
 ·refine Cells.lit rfl rfl<|Cells.lit rfl rfl<|CallQ.o (slr true 1 Ag) (by rfl) h (fun r h=>Qo h) (fun r6 h=> ?_)
  refine LoopQ.o [11,10,9,8,7,6,5,4,2,1] (Mq a0 names0 x6 x5 x8 x7 r6) (T3 a0 names0 x6 x5 x8 x7 r6) h (fun s o h=>Aek s o h) (by rfl) (fun _=>rfl) ?_
  rintro q13_10 h
  try dsimp only at h
  refine Cells.lit rfl rfl<|Cells.lit rfl rfl<|Len.map<|Ask.o h fun p14 h=>Elem.o (by first | omega | (simp [Aq] at * <;> omega))<|Len.map<|Ask.o h fun p15 h=>Elem.o (by first | omega | (simp [Aq] at * <;> omega))<|Len.map<|Ask.o h fun p16 h=>Elem.o (by first | omega | (simp [Aq] at * <;> omega))<|Kid.lit rfl rfl<|Len.map<|Ask.o h fun p17 h=>Kid.lit rfl rfl<|SetKids.one (fun _=>⟨rfl,rfl⟩) (nth names0 (nth (nth a0.Ops x6.toNat).Table x8.toNat).toNat) (by rfl) (by first | omega | (simp [Aq] at * <;> omega))<|Kid.lit rfl rfl<|SetKids.lit rfl<|Ask.o h fun p18 h=> ?_
  cases h;exact ⟨rfl,rfl⟩
 cases h;exact ⟨rfl,rfl⟩
noncomputable def D1 (a0:SAlgebra) (names0:List Int):(Int×SAlgebra)→Option ((Int×SAlgebra) ⊕ SAlgebra):=fun (x6,x5)=>
 if x6<(↑a0.Ops.length:Int) then
 ask ((0:Int)≤x6∧x6<(↑a0.Ops.length:Int)) <|
 ask ((0:Int)≤x6∧x6<(↑a0.Ops.length:Int)) <|
 ask ((0:Int)≤(↑(nth a0.Ops x6.toNat).Table.length:Int)∧(↑(nth a0.Ops x6.toNat).Table.length:Int)≤(↑LIM:Int)) <|
 (Aj (Dz a0 names0 x6 x5) ((0:Int),{ Arity:=(nth a0.Ops x6.toNat).Arity,Table:=List.replicate (↑(nth a0.Ops x6.toNat).Table.length:Int).toNat (0:Int) })).bind fun q19_7=>
 ask ((x5.Ops).length+([q19_7]).length≤LIM) <|
 ask (InI (x6+(1:Int))) <|
 some (.inl (x6+(1:Int),{ Size:=x5.Size,Ops:=x5.Ops++[q19_7] }))
 else
 some (.inr x5)
def M7 (a0:SAlgebra) (names0:List Int):(Int×SAlgebra)→St:=fun s=>[(6,A.val (Ag s.1)),(5,A.val ((rP true (Ae true)) s.2)),(4,A.val ((rP true (Ae true)) ({ Size:=(0:Int),Ops:=Al SOp }))),(2,A.val ((rP true (Ae false)) (a0))),(1,A.val ((slr false 1 Ag) (names0)))]
def Tv (_a0:SAlgebra) (_names0:List Int):SAlgebra→Tgt
 | s=>((Ex.exit 0),[5,4],[(5,A.val ((rP true (Ae true)) s)),(4,A.val ((rP true (Ae true)) ({ Size:=(0:Int),Ops:=Al SOp })))])
theorem Afu {a0:SAlgebra} {names0:List Int} (s:(Int×SAlgebra)) (o:(Int×SAlgebra) ⊕ SAlgebra) (h:D1 a0 names0 s=some o):vc Tryz.prog Tq (Cr [6,5,4,2,1] (M7 a0 names0) (Tv a0 names0) o) (M7 a0 names0 s):=by
 obtain ⟨x6,x5⟩:=s
 unfold D1 at h
 try dsimp only at h
 refine Cells.lit rfl rfl<|Len.map<|Br.od h (fun p1 h=> ?_) (fun p1 h=> ?_)
 ·refine Cells.lit rfl rfl<|Len.map<|Ask.o h fun p2 h=>Elem.o (by first | omega | (simp [Aq] at * <;> omega))<|Cells.lit rfl rfl<|Len.map<|Ask.o h fun p3 h=>Elem.o (by first | omega | (simp [Aq] at * <;> omega))<|Len.map<|Ask.o h fun p4 h=>MkQ.o Ag ((0:Int)) rfl<|SetKids.lit rfl<|LoopQ.o [8,7,6,5,4,2,1] (M5 a0 names0 x6 x5) (T6 a0 names0 x6 x5) h (fun s o h=>Ae4 s o h) (by rfl) (fun _=>rfl) ?_
  rintro q19_7 h
  try dsimp only at h
  refine Cells.lit rfl rfl<|Cells.lit rfl rfl<|BslQ.o (Aw true) [q19_7] (by exact fun _=>⟨rfl,rfl⟩) (by first | rfl | (simp only [Aa,V.fz,fzL,V.up,upL,Ab,Ac,Ad,slr,List.cons_append,List.nil_append];done) | simp [Aa,V.fz,fzL,V.up,upL,Ab,Ac,Ad,slr])<|NoOwn.own rfl<|Kid.lit rfl rfl<|Kid.lit rfl rfl<|SetKids.lit rfl<|AppQ.o (m:=2) (Aw true) (by exact fun _=>⟨rfl,rfl⟩) (x5.Ops) ([q19_7]) (by rfl) (by rfl) h fun h=>SetKids.lit rfl<|Ask.o h fun p20 h=> ?_
  cases h;exact ⟨rfl,rfl⟩
 cases h;exact ⟨rfl,rfl⟩
noncomputable def Hb (a0:SAlgebra) (names0:(List Int)):Option SAlgebra:=
 (Aj (D1 a0 names0) ((0:Int),{ Size:=a0.Size,Ops:=Al SOp })).bind fun q21_5=>
 some q21_5
theorem Ak1 {a0:SAlgebra} {names0:(List Int)} {v:SAlgebra} (h:Hb a0 names0=some v):Ret Tryz.prog Sd [(Ae false) a0,(slr false 1 Ag) names0] ((Ae true) v):=by
 refine A6 Alb (Nat.le_of_ble_eq_true rfl) ?_
 unfold Hb at h
 refine Cells.lit rfl rfl<|SetKids.lit rfl<|LoopQ.o [6,5,4,2,1] (M7 a0 names0) (Tv a0 names0) h (fun s o h=>Afu s o h) (by rfl) (fun _=>rfl) ?_
 rintro q21_5 h
 try dsimp only at h
 refine Cells.lit rfl rfl<|SetKids.lit rfl ?_
 cases h;exact (by rfl)
noncomputable def Jb (_a0:SAlgebra) (sub0:List Int) (_x6:Int) (_x5:SAlgebra) (_x8:Int) (_x7:SOp):(Int×(List Int))→Option ((Int×(List Int)) ⊕ (List Int)):=fun (x10,x9)=>
 if x10<(↑x9.length:Int) then
 ask ((0:Int)≤x10∧x10<(↑x9.length:Int)) <|
 ask ((0:Int)≤nth x9 x10.toNat∧nth x9 x10.toNat<(↑sub0.length:Int)) <|
 ask ((0:Int)≤x10∧x10<(↑x9.length:Int)) <|
 ask (InI (x10+(1:Int))) <|
 some (.inl (x10+(1:Int),x9.set x10.toNat (nth sub0 (nth x9 x10.toNat).toNat)))
 else
 some (.inr x9)
def R7 (a0:SAlgebra) (sub0:List Int) (x6:Int) (x5:SAlgebra) (x8:Int) (x7:SOp):(Int×(List Int))→St:=fun s=>[(10,A.val (Ag s.1)),(9,A.val ((slr true 1 Ag) s.2)),(8,A.val (Ag (x8))),(7,A.val ((rP true (Aw true)) (x7))),(6,A.val (Ag (x6))),(5,A.val ((rP true (Ae true)) (x5))),(4,A.val ((rP true (Ae true)) ({ Size:=(0:Int),Ops:=Al SOp }))),(2,A.val ((rP true (Ae false)) (a0))),(1,A.val ((slr false 1 Ag) (sub0)))]
def Aaa (a0:SAlgebra) (sub0:List Int) (x6:Int) (x5:SAlgebra) (x8:Int) (x7:SOp):(List Int)→Tgt
 | s=>((Ex.exit 4),[9,8,7,6,5,4,2,1],[(9,A.val ((slr true 1 Ag) s)),(8,A.val (Ag (x8))),(7,A.val ((rP true (Aw true)) (x7))),(6,A.val (Ag (x6))),(5,A.val ((rP true (Ae true)) (x5))),(4,A.val ((rP true (Ae true)) ({ Size:=(0:Int),Ops:=Al SOp }))),(2,A.val ((rP true (Ae false)) (a0))),(1,A.val ((slr false 1 Ag) (sub0)))])
theorem Amh {a0:SAlgebra} {sub0:List Int} {x6:Int} {x5:SAlgebra} {x8:Int} {x7:SOp} (s:(Int×(List Int))) (o:(Int×(List Int)) ⊕ (List Int)) (h:Jb a0 sub0 x6 x5 x8 x7 s=some o):vc Tryz.prog Aai (Cr [10,9,8,7,6,5,4,2,1] (R7 a0 sub0 x6 x5 x8 x7) (Aaa a0 sub0 x6 x5 x8 x7) o) (R7 a0 sub0 x6 x5 x8 x7 s):=by
 obtain ⟨x10,x9⟩:=s
 unfold Jb at h
 try dsimp only at h
 refine Len.map<|Br.od h (fun p6 h=> ?_) (fun p6 h=> ?_)
 ·refine Len.map<|Ask.o h fun p7 h=>Cells.one (fun _=>⟨rfl,rfl⟩) (by first | omega | (simp [Aq] at * <;> omega))<|Len.map<|Ask.o h fun p8 h=>Elem.o (by first | omega | (simp [Aq] at * <;> omega))<|Len.map<|Ask.o h fun p9 h=>SetKids.one (fun _=>⟨rfl,rfl⟩) (nth sub0 (nth x9 x10.toNat).toNat) (by rfl) (by first | omega | (simp [Aq] at * <;> omega))<|Ask.o h fun p10 h=> ?_
  cases h;exact ⟨rfl,rfl⟩
 cases h;exact ⟨rfl,rfl⟩
noncomputable def Jj (a0:SAlgebra) (sub0:List Int) (x6:Int) (x5:SAlgebra):(Int×SOp)→Option ((Int×SOp) ⊕ SOp):=fun (x8,x7)=>
 (Hh ((↑sub0.length:Int)) (x7.Arity)).bind fun r3=>
 if x8<r3 then
 (Fi ((↑sub0.length:Int)) (x7.Arity) (x8)).bind fun r5=>
 (Aj (Jb a0 sub0 x6 x5 x8 x7) ((0:Int),r5)).bind fun q11_9=>
 (Gu (a0) (x6) (q11_9)).bind fun r12=>
 (Kr (sub0) (r12)).bind fun r13=>
 ask ((x7.Table).length+([r13]).length≤LIM) <|
 ask (InI (x8+(1:Int))) <|
 some (.inl (x8+(1:Int),{ Arity:=x7.Arity,Table:=x7.Table++[r13] }))
 else
 some (.inr x7)
def Se (a0:SAlgebra) (sub0:List Int) (x6:Int) (x5:SAlgebra):(Int×SOp)→St:=fun s=>[(8,A.val (Ag s.1)),(7,A.val ((rP true (Aw true)) s.2)),(6,A.val (Ag (x6))),(5,A.val ((rP true (Ae true)) (x5))),(4,A.val ((rP true (Ae true)) ({ Size:=(0:Int),Ops:=Al SOp }))),(2,A.val ((rP true (Ae false)) (a0))),(1,A.val ((slr false 1 Ag) (sub0)))]
def Aan (a0:SAlgebra) (sub0:List Int) (x6:Int) (x5:SAlgebra):SOp→Tgt
 | s=>((Ex.exit 2),[7,6,5,4,2,1],[(7,A.val ((rP true (Aw true)) s)),(6,A.val (Ag (x6))),(5,A.val ((rP true (Ae true)) (x5))),(4,A.val ((rP true (Ae true)) ({ Size:=(0:Int),Ops:=Al SOp }))),(2,A.val ((rP true (Ae false)) (a0))),(1,A.val ((slr false 1 Ag) (sub0)))])
theorem Alp {a0:SAlgebra} {sub0:List Int} {x6:Int} {x5:SAlgebra} (s:(Int×SOp)) (o:(Int×SOp) ⊕ SOp) (h:Jj a0 sub0 x6 x5 s=some o):vc Tryz.prog Aaq (Cr [8,7,6,5,4,2,1] (Se a0 sub0 x6 x5) (Aan a0 sub0 x6 x5) o) (Se a0 sub0 x6 x5 s):=by
 obtain ⟨x8,x7⟩:=s
 unfold Jj at h
 try dsimp only at h
 refine Len.map<|Cells.lit rfl rfl<|CallQ.o Ag (by rfl) h (fun r h=>Zo h) (fun r3 h=> ?_)
 refine Br.od h (fun p4 h=> ?_) (fun p4 h=> ?_)
 ·refine Len.map<|Cells.lit rfl rfl<|CallQ.o (slr true 1 Ag) (by rfl) h (fun r h=>Qo h) (fun r5 h=> ?_)
  refine LoopQ.o [10,9,8,7,6,5,4,2,1] (R7 a0 sub0 x6 x5 x8 x7) (Aaa a0 sub0 x6 x5 x8 x7) h (fun s o h=>Amh s o h) (by rfl) (fun _=>rfl) ?_
  rintro q11_9 h
  try dsimp only at h
  refine Cells.lit rfl rfl<|Cells.lit rfl rfl<|CallP.rd Ag (by first | rfl | simp only [V.fz,fzL,V.up,Ab,Ad,slr] | simp [Aa,V.fz,fzL,V.up,upL,Ab,Ac,Ad,slr]) (fun _=>rfl) h (fun r h=>Ac0 h) (fun r12 h=> ?_)
  refine CallP.o Ag (by rfl) h (fun r h=>Aos h) (fun r13 h=> ?_)
  refine BslQ.o Ag [r13] (by exact fun _=>⟨rfl,rfl⟩) (by first | rfl | (simp only [Aa,V.fz,fzL,V.up,upL,Ab,Ac,Ad,slr,List.cons_append,List.nil_append];done) | simp [Aa,V.fz,fzL,V.up,upL,Ab,Ac,Ad,slr])<|NoOwn.o (fun _=>rfl)<|Kid.lit rfl rfl<|Kid.lit rfl rfl<|SetKids.lit rfl<|AppQ.o (m:=1) Ag (by exact fun _=>⟨rfl,rfl⟩) (x7.Table) ([r13]) (by rfl) (by rfl) h fun h=>SetKids.lit rfl<|Ask.o h fun p14 h=> ?_
  cases h;exact ⟨rfl,rfl⟩
 cases h;exact ⟨rfl,rfl⟩
noncomputable def Je (a0:SAlgebra) (sub0:List Int):(Int×SAlgebra)→Option ((Int×SAlgebra) ⊕ SAlgebra):=fun (x6,x5)=>
 if x6<(↑a0.Ops.length:Int) then
 ask ((0:Int)≤x6∧x6<(↑a0.Ops.length:Int)) <|
 (Aj (Jj a0 sub0 x6 x5) ((0:Int),{ Arity:=(nth a0.Ops x6.toNat).Arity,Table:=Al Int })).bind fun q15_7=>
 ask ((x5.Ops).length+([q15_7]).length≤LIM) <|
 ask (InI (x6+(1:Int))) <|
 some (.inl (x6+(1:Int),{ Size:=x5.Size,Ops:=x5.Ops++[q15_7] }))
 else
 some (.inr x5)
def Rv (a0:SAlgebra) (sub0:List Int):(Int×SAlgebra)→St:=fun s=>[(6,A.val (Ag s.1)),(5,A.val ((rP true (Ae true)) s.2)),(4,A.val ((rP true (Ae true)) ({ Size:=(0:Int),Ops:=Al SOp }))),(2,A.val ((rP true (Ae false)) (a0))),(1,A.val ((slr false 1 Ag) (sub0)))]
def Aax (_a0:SAlgebra) (_sub0:List Int):SAlgebra→Tgt
 | s=>((Ex.exit 0),[5,4],[(5,A.val ((rP true (Ae true)) s)),(4,A.val ((rP true (Ae true)) ({ Size:=(0:Int),Ops:=Al SOp })))])
theorem Akz {a0:SAlgebra} {sub0:List Int} (s:(Int×SAlgebra)) (o:(Int×SAlgebra) ⊕ SAlgebra) (h:Je a0 sub0 s=some o):vc Tryz.prog Aay (Cr [6,5,4,2,1] (Rv a0 sub0) (Aax a0 sub0) o) (Rv a0 sub0 s):=by
 obtain ⟨x6,x5⟩:=s
 unfold Je at h
 try dsimp only at h
 refine Cells.lit rfl rfl<|Len.map<|Br.od h (fun p1 h=> ?_) (fun p1 h=> ?_)
 ·refine Cells.lit rfl rfl<|Len.map<|Ask.o h fun p2 h=>Elem.o (by first | omega | (simp [Aq] at * <;> omega))<|SetKids.lit rfl<|LoopQ.o [8,7,6,5,4,2,1] (Se a0 sub0 x6 x5) (Aan a0 sub0 x6 x5) h (fun s o h=>Alp s o h) (by rfl) (fun _=>rfl) ?_
  rintro q15_7 h
  try dsimp only at h
  refine Cells.lit rfl rfl<|Cells.lit rfl rfl<|BslQ.o (Aw true) [q15_7] (by exact fun _=>⟨rfl,rfl⟩) (by first | rfl | (simp only [Aa,V.fz,fzL,V.up,upL,Ab,Ac,Ad,slr,List.cons_append,List.nil_append];done) | simp [Aa,V.fz,fzL,V.up,upL,Ab,Ac,Ad,slr])<|NoOwn.own rfl<|Kid.lit rfl rfl<|Kid.lit rfl rfl<|SetKids.lit rfl<|AppQ.o (m:=2) (Aw true) (by exact fun _=>⟨rfl,rfl⟩) (x5.Ops) ([q15_7]) (by rfl) (by rfl) h fun h=>SetKids.lit rfl<|Ask.o h fun p16 h=> ?_
  cases h;exact ⟨rfl,rfl⟩
 cases h;exact ⟨rfl,rfl⟩
noncomputable def Li (a0:SAlgebra) (sub0:(List Int)):Option SAlgebra:=
 (Aj (Je a0 sub0) ((0:Int),{ Size:=(↑sub0.length:Int),Ops:=Al SOp })).bind fun q17_5=>
 some q17_5
theorem At4 {a0:SAlgebra} {sub0:(List Int)} {v:SAlgebra} (h:Li a0 sub0=some v):Ret Tryz.prog Zr [(Ae false) a0,(slr false 1 Ag) sub0] ((Ae true) v):=by
 refine A6 Au3 (Nat.le_of_ble_eq_true rfl) ?_
 unfold Li at h
 refine Len.map<|SetKids.lit rfl<|LoopQ.o [6,5,4,2,1] (Rv a0 sub0) (Aax a0 sub0) h (fun s o h=>Akz s o h) (by rfl) (fun _=>rfl) ?_
 rintro q17_5 h
 try dsimp only at h
 refine Cells.lit rfl rfl<|SetKids.lit rfl ?_
 cases h;exact (by rfl)
noncomputable def Ey (n0:Int) (f0:List Int):Int→Option (Int ⊕ (Unit ⊕ Unit)):=fun x5=>
 if x5<n0 then
 (I2 (f0) (x5)).bind fun r2=>
 if (r2)=true then
 ask (InI (x5+(1:Int))) <|
 some (.inl (x5+(1:Int)))
 else
 some (.inr (.inl ()))
 else
 some (.inr (.inr ()))
def P7 (n0:Int) (f0:List Int):Int→St:=fun s=>[(5,A.val (Ag s)),(0,A.val (Ag (n0))),(1,A.val ((slr false 1 Ag) (f0)))]
def Ye (_n0:Int) (_f0:List Int):(Unit ⊕ Unit)→Tgt
 | (.inl _s)=>(Ex.ret,[4],[(4,A.val (V.bool (false)))])
 | (.inr _s)=>((Ex.exit 0),[],[])
theorem Ai5 {n0:Int} {f0:List Int} (x5:Int) (o:Int ⊕ (Unit ⊕ Unit)) (h:Ey n0 f0 x5=some o):vc Tryz.prog X0 (Cr [5,0,1] (P7 n0 f0) (Ye n0 f0) o) (P7 n0 f0 x5):=by
 unfold Ey at h
 try dsimp only at h
 refine Br.od h (fun p1 h=> ?_) (fun p1 h=> ?_)
 ·refine CallQ.o V.bool (by rfl) h (fun r h=>Zw h) (fun r2 h=> ?_)
  refine Br.flip<|Br.ob h (fun p3 h=> ?_) (fun p3 h=> ?_)
  ·refine Ask.o h fun p4 h=> ?_
   cases h;exact ⟨rfl,rfl⟩
  cases h;exact ⟨rfl,rfl⟩
 cases h;exact ⟨rfl,rfl⟩
noncomputable def Js (n0:Int) (f0:(List Int)):Option Bool:=
 (Aj (Ey n0 f0) (0:Int)).bind fun t=>match t with
 | (.inl _)=>(some false)
 | (.inr _)=>(some true)
theorem Aq8 {n0:Int} {f0:(List Int)} {v:Bool} (h:Js n0 f0=some v):Ret Tryz.prog Wt [Ag n0,(slr false 1 Ag) f0] (V.bool v):=by
 refine A6 Aqy (Nat.le_of_ble_eq_true rfl) ?_
 unfold Js at h
 refine LoopQ.o [5,0,1] (P7 n0 f0) (Ye n0 f0) h (fun s o h=>Ai5 s o h) (by rfl) (by rintro (_ | _)<;>rfl) ?_
 rintro (⟨⟩ | ⟨⟩) h
 ·try dsimp only at h
  cases h;exact (by rfl)
 try dsimp only at h
 cases h;exact (by rfl)
noncomputable def Oq (f0:SOp):Option SOp:=
 (Fj (f0.Table)).bind fun r1=>
 some ({ Arity:=f0.Arity,Table:=r1 })
theorem Aoj {f0:SOp} {v:SOp} (h:Oq f0=some v):Ret Tryz.prog Tu [(Aw false) f0] ((Aw true) v):=by
 refine A6 Aor (Nat.le_of_ble_eq_true rfl) ?_
 unfold Oq at h
 refine Cells.lit rfl rfl<|Cells.lit rfl rfl<|CallP.o (slr true 1 Ag) (by rfl) h (fun r h=>Om h) (fun r1 h=> ?_)
 refine SetKids.lit rfl ?_
 cases h;exact (by rfl)
end Go.Proofs.YtmkgjnphianalaaGreat.Ax
