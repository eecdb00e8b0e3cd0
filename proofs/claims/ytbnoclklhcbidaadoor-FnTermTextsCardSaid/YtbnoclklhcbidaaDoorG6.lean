/-
 What the functions compute, as functions on plain data, and that the program does compute it; written by program.
-/
import Derived.Test.YtbnoclklhcbidaaDoorCode
import Derived.Test.YtbnoclklhcbidaaDoorG1
import Derived.Test.YtbnoclklhcbidaaDoorG2
import Derived.Test.YtbnoclklhcbidaaDoorG4
import Derived.Test.YtbnoclklhcbidaaDoorG5
namespace Go.Proofs.YtbnoclklhcbidaaDoor.Ax
open Go
set_option maxRecDepth 100000
set_option maxHeartbeats 4000000
noncomputable def Fl (a0:SAlgebra) (t0:List Int):(Int×(List (List Int)))→Option ((Int×(List (List Int))) ⊕ (List (List Int))):=fun (x6,x5)=>
 if x6<(↑t0.length:Int) then
 (Ev (a0) (t0) (x6)).bind fun r2=>
 ask (0≤x6∧x6≤r2∧r2≤((t0.length:Nat):Int)) <|
 (H3 (List.take (r2.toNat-x6.toNat) (List.drop x6.toNat t0))).bind fun r3=>
 ask ((x5).length+([r3]).length≤LIM) <|
 (Ev (a0) (t0) (x6)).bind fun r4=>
 some (.inl (r4,x5++[r3]))
 else
 some (.inr x5)
def J6 (a0:SAlgebra) (t0:List Int):(Int×(List (List Int)))→St:=fun s=>[(6,A.val (Af s.1)),(5,A.val ((slr true 1 (slr true 1 Af)) s.2)),(2,A.val ((rP true (Ag false)) (a0))),(1,A.val ((slr false 1 Af) (t0)))]
def Ov (_a0:SAlgebra) (_t0:List Int):(List (List Int))→Tgt
 | s=>((Ex.exit 0),[5],[(5,A.val ((slr true 1 (slr true 1 Af)) s))])
theorem Xj {a0:SAlgebra} {t0:List Int} (s:(Int×(List (List Int)))) (o:(Int×(List (List Int))) ⊕ (List (List Int))) (h:Fl a0 t0 s=some o):vc Tryd.prog Ol (Gg [6,5,2,1] (J6 a0 t0) (Ov a0 t0) o) (J6 a0 t0 s):=by
 obtain ⟨x6,x5⟩:=s
 unfold Fl at h
 try dsimp only at h
 conv=>whnf
 refine Len.map ?_
 conv=>whnf
 refine Br.od h (fun p1 h=> ?_) (fun p1 h=> ?_)
 ·conv=>whnf
  refine Cells.lit rfl rfl ?_
  conv=>whnf
  refine CallQ.o Af (by first | rfl | simp only [Aa,V.fz,fzL,V.up,upL,Ab,Ac,Ad,slr,List.cons_append,List.nil_append] | simp [Aa,V.fz,fzL,V.up,upL,Ab,Ac,Ad,slr]) h (fun r h=>Mw h) (fun r2 h=> ?_)
  conv=>whnf
  refine SlcQ.o Af h fun h=> ?_
  conv=>whnf
  refine CallQ.o (slr true 1 Af) (by first | rfl | simp only [Aa,V.fz,fzL,V.up,upL,Ab,Ac,Ad,slr,List.cons_append,List.nil_append] | simp [Aa,V.fz,fzL,V.up,upL,Ab,Ac,Ad,slr]) h (fun r h=>Yv h) (fun r3 h=> ?_)
  conv=>whnf
  refine BslQ.o (slr true 1 Af) [r3] (by exact fun _=>⟨rfl,rfl⟩) (by first | rfl | (simp only [Aa,V.fz,fzL,V.up,upL,Ab,Ac,Ad,slr,List.cons_append,List.nil_append];done) | simp [Aa,V.fz,fzL,V.up,upL,Ab,Ac,Ad,slr]) ?_
  conv=>whnf
  refine NoOwn.own rfl ?_
  conv=>whnf
  refine AppQ.o (m:=1) (slr true 1 Af) (by exact fun _=>⟨rfl,rfl⟩) (x5) ([r3]) (by first | rfl | simp only [Aa,V.fz,fzL,V.up,upL,Ab,Ac,Ad,slr,List.cons_append,List.nil_append] | simp [Aa,V.fz,fzL,V.up,upL,Ab,Ac,Ad,slr]) (by first | rfl | simp only [Aa,V.fz,fzL,V.up,upL,Ab,Ac,Ad,slr,List.cons_append,List.nil_append] | simp [Aa,V.fz,fzL,V.up,upL,Ab,Ac,Ad,slr]) h fun h=> ?_
  conv=>whnf
  refine Cells.lit rfl rfl ?_
  conv=>whnf
  refine CallQ.o Af (by first | rfl | simp only [Aa,V.fz,fzL,V.up,upL,Ab,Ac,Ad,slr,List.cons_append,List.nil_append] | simp [Aa,V.fz,fzL,V.up,upL,Ab,Ac,Ad,slr]) h (fun r h=>Mw h) (fun r4 h=> ?_)
  conv=>whnf
  cases h;exact ⟨rfl,rfl⟩
 conv=>whnf
 cases h;exact ⟨rfl,rfl⟩
noncomputable def Hs (a0:SAlgebra) (t0:(List Int)):Option (List (List Int)):=
 (A7 (Fl a0 t0) ((1:Int),A4 (List Int))).bind fun q5_5=>
 some q5_5
theorem Ac8 {a0:SAlgebra} {t0:(List Int)} {v:(List (List Int))} (h:Hs a0 t0=some v):Ret Tryd.prog Nl [(Ag false) a0,(slr false 1 Af) t0] ((slr true 1 (slr true 1 Af)) v):=by
 refine Bp Aew (Nat.le_of_ble_eq_true rfl) ?_
 unfold Hs at h
 conv=>whnf
 refine BslQ.o (slr true 1 Af) (A4 (List Int)) (by exact fun _=>⟨rfl,rfl⟩) (by first | rfl | (simp only [Aa,V.fz,fzL,V.up,upL,Ab,Ac,Ad,slr,List.cons_append,List.nil_append];done) | simp [Aa,V.fz,fzL,V.up,upL,Ab,Ac,Ad,slr]) ?_
 conv=>whnf
 refine LoopQ.o [6,5,2,1] (J6 a0 t0) (Ov a0 t0) h (fun s o h=>Xj s o h) (by first | rfl | simp [restrict,look,Aa,V.fz,fzL,V.up,upL,Ab,Ac,Ad,slr]) (fun _=>rfl) ?_
 rintro q5_5 h
 try dsimp only at h
 conv=>whnf
 cases h;exact (by first | rfl | simp only [Ah,Aa,V.fz,fzL,V.up,upL,Ab,Ac,Ad,slr] | simp [Ah,Aa,V.fz,fzL,V.up,upL,Ab,Ac,Ad,slr])
noncomputable def Al (c0:Sl1Cur) (list0:(List Int)):Option (Int×Sl1Cur):=
 (Am (c0) ((↑list0.length:Int))).bind fun (r1,u2)=>
 ask ((0:Int)≤r1∧r1<(↑list0.length:Int)) <|
 some (nth list0 r1.toNat,u2)
theorem As {c0:Sl1Cur} {list0:(List Int)} {v:(Int×Sl1Cur)} (h:Al c0 list0=some v):Iq Tryd.prog Ap [(rP true (Aj false)) c0,(slr false 1 Af) list0] (Af v.1) 0 ((rP true (Aj false)) v.2):=by
 refine M5 Wd (Nat.le_of_ble_eq_true rfl) ?_
 unfold Al at h
 conv=>whnf
 refine Len.map ?_
 conv=>whnf
 refine CallQ.io Af (rP true (Aj false)) (by first | rfl | simp only [Aa,V.fz,fzL,V.up,upL,Ab,Ac,Ad,slr,List.cons_append,List.nil_append] | simp [Aa,V.fz,fzL,V.up,upL,Ab,Ac,Ad,slr]) rfl (fun _=>rfl) (fun _=>⟨rfl,rfl⟩) rfl h (fun r h=>Ar h) (fun r1 u2 h=> ?_)
 conv=>whnf
 refine Len.map ?_
 conv=>whnf
 refine Ask.o h fun p3 h=> ?_
 conv=>whnf
 refine Elem.o (by first | omega | (simp [A8] at * <;> omega)) ?_
 conv=>whnf
 cases h;exact ⟨(by first | rfl | simp only [Ah,Aa,V.fz,fzL,V.up,upL,Ab,Ac,Ad,slr] | simp [Ah,Aa,V.fz,fzL,V.up,upL,Ab,Ac,Ad,slr]),(by first | rfl | simp only [Ah,Aa,V.fz,fzL,V.up,upL,Ab,Ac,Ad,slr] | simp [Ah,Aa,V.fz,fzL,V.up,upL,Ab,Ac,Ad,slr])⟩
noncomputable def Bj (_a0:SAlgebra) (s0:ByteArray):(Int×(List Int))→Option ((Int×(List Int)) ⊕ (List Int)):=fun (x7,x6)=>
 ((if x7<(↑s0.size:Int) then
 if (↑x6.length:Int)≤(60:Int) then
 some (.inl ())
 else
 some (.inr ())
 else
 some (.inr ()):Option (Unit ⊕ Unit))).bind fun t=>match t with
 | (.inl _)=>(((ask ((0:Int)≤x7∧x7<(↑s0.size:Int)) <|
 if Cz s0 x7≠(120:Int) then
 ask ((0:Int)≤x7∧x7<(↑s0.size:Int)) <|
 if Cz s0 x7≠(102:Int) then
 some (.inl ())
 else
 ask (InI (x7+(1:Int))) <|
 if x7+(1:Int)≥(↑s0.size:Int) then
 some (.inl ())
 else
 ask (InI (x7+(1:Int))) <|
 ask ((0:Int)≤x7+(1:Int)∧x7+(1:Int)<(↑s0.size:Int)) <|
 if Cz s0 (x7+(1:Int))<(48:Int) then
 some (.inl ())
 else
 ask (InI (x7+(1:Int))) <|
 ask ((0:Int)≤x7+(1:Int)∧x7+(1:Int)<(↑s0.size:Int)) <|
 if Cz s0 (x7+(1:Int))>(57:Int) then
 some (.inl ())
 else
 some (.inr ())
 else
 ask (InI (x7+(1:Int))) <|
 if x7+(1:Int)≥(↑s0.size:Int) then
 some (.inl ())
 else
 ask (InI (x7+(1:Int))) <|
 ask ((0:Int)≤x7+(1:Int)∧x7+(1:Int)<(↑s0.size:Int)) <|
 if Cz s0 (x7+(1:Int))<(48:Int) then
 some (.inl ())
 else
 ask (InI (x7+(1:Int))) <|
 ask ((0:Int)≤x7+(1:Int)∧x7+(1:Int)<(↑s0.size:Int)) <|
 if Cz s0 (x7+(1:Int))>(57:Int) then
 some (.inl ())
 else
 some (.inr ()):Option (Unit ⊕ Unit))).bind fun t=>match t with
 | (.inl _)=>(ask (InI (x7+(1:Int))) <|
 some (.inl (x7+(1:Int),x6)))
 | (.inr _)=>(ask (InI (x7+(1:Int))) <|
 ask ((0:Int)≤x7+(1:Int)∧x7+(1:Int)<(↑s0.size:Int)) <|
 ask ((0:Int)≤x7∧x7<(↑s0.size:Int)) <|
 if Cz s0 x7=(102:Int) then
 ask (InI ((-1:Int)-IntKind.i64.wrap (IntKind.u8.wrap (Cz s0 (x7+(1:Int))-(48:Int))))) <|
 ask ((x6).length+([(-1:Int)-IntKind.i64.wrap (IntKind.u8.wrap (Cz s0 (x7+(1:Int))-(48:Int)))]).length≤LIM) <|
 ask (InI (x7+(1:Int))) <|
 some (.inl (x7+(1:Int),x6++[(-1:Int)-IntKind.i64.wrap (IntKind.u8.wrap (Cz s0 (x7+(1:Int))-(48:Int)))]))
 else
 ask ((x6).length+([IntKind.i64.wrap (IntKind.u8.wrap (Cz s0 (x7+(1:Int))-(48:Int)))]).length≤LIM) <|
 ask (InI (x7+(1:Int))) <|
 some (.inl (x7+(1:Int),x6++[IntKind.i64.wrap (IntKind.u8.wrap (Cz s0 (x7+(1:Int))-(48:Int)))]))))
 | (.inr _)=>(some (.inr x6))
def Ia (a0:SAlgebra) (s0:ByteArray):(Int×(List Int))→St:=fun s=>[(7,A.val (Af s.1)),(6,A.val ((slr true 1 Af) s.2)),(2,A.val ((rP true (Ag false)) (a0))),(1,A.val (V.str (s0)))]
def Mi (a0:SAlgebra) (s0:ByteArray):(List Int)→Tgt
 | s=>((Ex.exit 0),[6,2,1],[(6,A.val ((slr true 1 Af) s)),(2,A.val ((rP true (Ag false)) (a0))),(1,A.val (V.str (s0)))])
theorem Vd {a0:SAlgebra} {s0:ByteArray} (s:(Int×(List Int))) (o:(Int×(List Int)) ⊕ (List Int)) (h:Bj a0 s0 s=some o):vc Tryd.prog Mn (Gg [7,6,2,1] (Ia a0 s0) (Mi a0 s0) o) (Ia a0 s0 s):=by
 obtain ⟨x7,x6⟩:=s
 unfold Bj at h
 try dsimp only at h
 conv=>whnf
 refine CutQ.o (fun t:(Unit ⊕ Unit)=>match t with | (.inl s)=>(Ex.normal,[7,6,2,1],[(7,A.val (Af (x7))),(6,A.val ((slr true 1 Af) (x6))),(2,A.val ((rP true (Ag false)) (a0))),(1,A.val (V.str (s0)))]) | (.inr s)=>((Ex.exit 0),[6,2,1],[(6,A.val ((slr true 1 Af) (x6))),(2,A.val ((rP true (Ag false)) (a0))),(1,A.val (V.str (s0)))])) h ?_ ?_
 ·intro t h
  conv=>whnf
  refine Br.od h (fun p3 h=> ?_) (fun p3 h=> ?_)
  ·conv=>whnf
   refine Br.yes ?_
   conv=>whnf
   refine Len.map ?_
   conv=>whnf
   refine Br.yes ?_
   conv=>whnf
   refine Br.yes ?_
   conv=>whnf
   refine Br.od h (fun p4 h=> ?_) (fun p4 h=> ?_)
   ·conv=>whnf
    cases h;exact ⟨rfl,rfl⟩
   conv=>whnf
   cases h;exact ⟨rfl,rfl⟩
  conv=>whnf
  refine Br.no ?_
  conv=>whnf
  refine Br.no ?_
  conv=>whnf
  refine Br.no ?_
  conv=>whnf
  refine Br.no ?_
  conv=>whnf
  cases h;exact ⟨rfl,rfl⟩
 rintro (⟨⟩ | ⟨⟩) h
 ·try dsimp only at h
  conv=>whnf
  refine CutQ.o (fun t:(Unit ⊕ Unit)=>match t with | (.inl s)=>((Ex.exit 1),[7,6,2,1],[(7,A.val (Af (x7))),(6,A.val ((slr true 1 Af) (x6))),(2,A.val ((rP true (Ag false)) (a0))),(1,A.val (V.str (s0)))]) | (.inr s)=>(Ex.normal,[7,6,2,1],[(7,A.val (Af (x7))),(6,A.val ((slr true 1 Af) (x6))),(2,A.val ((rP true (Ag false)) (a0))),(1,A.val (V.str (s0)))])) h ?_ ?_
  ·intro t h
   conv=>whnf
   refine Ask.o h fun p6 h=> ?_
   conv=>whnf
   refine Br.on h (fun p7 h=> ?_) (fun p7 h=> ?_)
   ·conv=>whnf
    refine Br.yes ?_
    conv=>whnf
    refine Br.yes ?_
    conv=>whnf
    refine Ask.o h fun p8 h=> ?_
    conv=>whnf
    refine Br.yes ?_
    conv=>whnf
    refine Br.yes ?_
    conv=>whnf
    refine Br.on h (fun p9 h=> ?_) (fun p9 h=> ?_)
    ·conv=>whnf
     refine Br.yes ?_
     conv=>whnf
     refine Br.yes ?_
     conv=>whnf
     refine Br.yes ?_
     conv=>whnf
     refine Br.yes ?_
     conv=>whnf
     refine Br.yes ?_
     conv=>whnf
     refine Br.yes ?_
     conv=>whnf
     refine Br.yes ?_
     conv=>whnf
     refine Br.yes ?_
     conv=>whnf
     refine Br.yes ?_
     conv=>whnf
     refine Br.yes ?_
     conv=>whnf
     refine Br.yes ?_
     conv=>whnf
     refine Br.yes ?_
     conv=>whnf
     refine Br.yes ?_
     conv=>whnf
     refine Br.yes ?_
     conv=>whnf
     refine Br.yes ?_
     conv=>whnf
     refine Br.yes ?_
     conv=>whnf
     refine Br.yes ?_
     conv=>whnf
     refine Br.yes ?_
     conv=>whnf
     cases h;exact ⟨rfl,rfl⟩
    conv=>whnf
    refine Br.no ?_
    conv=>whnf
    refine Ask.o h fun p10 h=> ?_
    conv=>whnf
    refine Br.no ?_
    conv=>whnf
    refine Br.no ?_
    conv=>whnf
    refine Br.no ?_
    conv=>whnf
    refine Br.no ?_
    conv=>whnf
    refine Br.od h (fun p11 h=> ?_) (fun p11 h=> ?_)
    ·conv=>whnf
     refine Br.yes ?_
     conv=>whnf
     refine Br.yes ?_
     conv=>whnf
     refine Br.yes ?_
     conv=>whnf
     refine Br.yes ?_
     conv=>whnf
     refine Br.yes ?_
     conv=>whnf
     refine Br.yes ?_
     conv=>whnf
     refine Br.yes ?_
     conv=>whnf
     refine Br.yes ?_
     conv=>whnf
     refine Br.yes ?_
     conv=>whnf
     refine Br.yes ?_
     conv=>whnf
     refine Br.yes ?_
     conv=>whnf
     refine Br.yes ?_
     conv=>whnf
     cases h;exact ⟨rfl,rfl⟩
    conv=>whnf
    refine Br.no ?_
    conv=>whnf
    refine Br.no ?_
    conv=>whnf
    refine Ask.o h fun p12 h=> ?_
    conv=>whnf
    refine Br.no ?_
    conv=>whnf
    refine Ask.o h fun p13 h=> ?_
    conv=>whnf
    refine Br.no ?_
    conv=>whnf
    refine Br.no ?_
    conv=>whnf
    refine Br.od h (fun p14 h=> ?_) (fun p14 h=> ?_)
    ·conv=>whnf
     refine Br.yes ?_
     conv=>whnf
     refine Br.yes ?_
     conv=>whnf
     refine Br.yes ?_
     conv=>whnf
     refine Br.yes ?_
     conv=>whnf
     refine Br.yes ?_
     conv=>whnf
     refine Br.yes ?_
     conv=>whnf
     cases h;exact ⟨rfl,rfl⟩
    conv=>whnf
    refine Br.no ?_
    conv=>whnf
    refine Br.no ?_
    conv=>whnf
    refine Ask.o h fun p15 h=> ?_
    conv=>whnf
    refine Br.no ?_
    conv=>whnf
    refine Ask.o h fun p16 h=> ?_
    conv=>whnf
    refine Br.no ?_
    conv=>whnf
    refine Br.no ?_
    conv=>whnf
    refine Br.od h (fun p17 h=> ?_) (fun p17 h=> ?_)
    ·conv=>whnf
     cases h;exact ⟨rfl,rfl⟩
    conv=>whnf
    cases h;exact ⟨rfl,rfl⟩
   conv=>whnf
   refine Br.no ?_
   conv=>whnf
   refine Br.no ?_
   conv=>whnf
   refine Br.no ?_
   conv=>whnf
   refine Br.no ?_
   conv=>whnf
   refine Br.no ?_
   conv=>whnf
   refine Br.no ?_
   conv=>whnf
   refine Ask.o h fun p18 h=> ?_
   conv=>whnf
   refine Br.no ?_
   conv=>whnf
   refine Br.no ?_
   conv=>whnf
   refine Br.no ?_
   conv=>whnf
   refine Br.no ?_
   conv=>whnf
   refine Br.od h (fun p19 h=> ?_) (fun p19 h=> ?_)
   ·conv=>whnf
    refine Br.yes ?_
    conv=>whnf
    refine Br.yes ?_
    conv=>whnf
    refine Br.yes ?_
    conv=>whnf
    refine Br.yes ?_
    conv=>whnf
    refine Br.yes ?_
    conv=>whnf
    refine Br.yes ?_
    conv=>whnf
    refine Br.yes ?_
    conv=>whnf
    refine Br.yes ?_
    conv=>whnf
    refine Br.yes ?_
    conv=>whnf
    refine Br.yes ?_
    conv=>whnf
    refine Br.yes ?_
    conv=>whnf
    refine Br.yes ?_
    conv=>whnf
    cases h;exact ⟨rfl,rfl⟩
   conv=>whnf
   refine Br.no ?_
   conv=>whnf
   refine Br.no ?_
   conv=>whnf
   refine Ask.o h fun p20 h=> ?_
   conv=>whnf
   refine Br.no ?_
   conv=>whnf
   refine Ask.o h fun p21 h=> ?_
   conv=>whnf
   refine Br.no ?_
   conv=>whnf
   refine Br.no ?_
   conv=>whnf
   refine Br.od h (fun p22 h=> ?_) (fun p22 h=> ?_)
   ·conv=>whnf
    refine Br.yes ?_
    conv=>whnf
    refine Br.yes ?_
    conv=>whnf
    refine Br.yes ?_
    conv=>whnf
    refine Br.yes ?_
    conv=>whnf
    refine Br.yes ?_
    conv=>whnf
    refine Br.yes ?_
    conv=>whnf
    cases h;exact ⟨rfl,rfl⟩
   conv=>whnf
   refine Br.no ?_
   conv=>whnf
   refine Br.no ?_
   conv=>whnf
   refine Ask.o h fun p23 h=> ?_
   conv=>whnf
   refine Br.no ?_
   conv=>whnf
   refine Ask.o h fun p24 h=> ?_
   conv=>whnf
   refine Br.no ?_
   conv=>whnf
   refine Br.no ?_
   conv=>whnf
   refine Br.od h (fun p25 h=> ?_) (fun p25 h=> ?_)
   ·conv=>whnf
    cases h;exact ⟨rfl,rfl⟩
   conv=>whnf
   cases h;exact ⟨rfl,rfl⟩
  rintro (⟨⟩ | ⟨⟩) h
  ·try dsimp only at h
   conv=>whnf
   refine Ask.o h fun p27 h=> ?_
   conv=>whnf
   cases h;exact ⟨rfl,rfl⟩
  try dsimp only at h
  conv=>whnf
  refine Ask.o h fun p28 h=> ?_
  conv=>whnf
  refine Ask.o h fun p29 h=> ?_
  conv=>whnf
  refine Ask.o h fun p30 h=> ?_
  conv=>whnf
  refine Br.oe h (fun p31 h=> ?_) (fun p31 h=> ?_)
  ·conv=>whnf
   refine Ask.o h fun p32 h=> ?_
   conv=>whnf
   refine BslQ.o Af ([(-1:Int)-IntKind.i64.wrap (IntKind.u8.wrap (Cz s0 (x7+(1:Int))-(48:Int)))]) (by exact fun _=>⟨rfl,rfl⟩) (by first | rfl | (simp only [Aa,V.fz,fzL,V.up,upL,Ab,Ac,Ad,slr,List.cons_append,List.nil_append];done) | simp [Aa,V.fz,fzL,V.up,upL,Ab,Ac,Ad,slr]) ?_
   conv=>whnf
   refine NoOwn.o (fun _=>rfl) ?_
   conv=>whnf
   refine AppQ.o (m:=1) Af (by exact fun _=>⟨rfl,rfl⟩) (x6) ([(-1:Int)-IntKind.i64.wrap (IntKind.u8.wrap (Cz s0 (x7+(1:Int))-(48:Int)))]) (by first | rfl | simp only [Aa,V.fz,fzL,V.up,upL,Ab,Ac,Ad,slr,List.cons_append,List.nil_append] | simp [Aa,V.fz,fzL,V.up,upL,Ab,Ac,Ad,slr]) (by first | rfl | simp only [Aa,V.fz,fzL,V.up,upL,Ab,Ac,Ad,slr,List.cons_append,List.nil_append] | simp [Aa,V.fz,fzL,V.up,upL,Ab,Ac,Ad,slr]) h fun h=> ?_
   conv=>whnf
   refine Ask.o h fun p33 h=> ?_
   conv=>whnf
   cases h;exact ⟨rfl,rfl⟩
  conv=>whnf
  refine BslQ.o Af ([IntKind.i64.wrap (IntKind.u8.wrap (Cz s0 (x7+(1:Int))-(48:Int)))]) (by exact fun _=>⟨rfl,rfl⟩) (by first | rfl | (simp only [Aa,V.fz,fzL,V.up,upL,Ab,Ac,Ad,slr,List.cons_append,List.nil_append];done) | simp [Aa,V.fz,fzL,V.up,upL,Ab,Ac,Ad,slr]) ?_
  conv=>whnf
  refine NoOwn.o (fun _=>rfl) ?_
  conv=>whnf
  refine AppQ.o (m:=1) Af (by exact fun _=>⟨rfl,rfl⟩) (x6) ([IntKind.i64.wrap (IntKind.u8.wrap (Cz s0 (x7+(1:Int))-(48:Int)))]) (by first | rfl | simp only [Aa,V.fz,fzL,V.up,upL,Ab,Ac,Ad,slr,List.cons_append,List.nil_append] | simp [Aa,V.fz,fzL,V.up,upL,Ab,Ac,Ad,slr]) (by first | rfl | simp only [Aa,V.fz,fzL,V.up,upL,Ab,Ac,Ad,slr,List.cons_append,List.nil_append] | simp [Aa,V.fz,fzL,V.up,upL,Ab,Ac,Ad,slr]) h fun h=> ?_
  conv=>whnf
  refine Ask.o h fun p34 h=> ?_
  conv=>whnf
  cases h;exact ⟨rfl,rfl⟩
 try dsimp only at h
 conv=>whnf
 cases h;exact ⟨rfl,rfl⟩
noncomputable def E4 (a0:SAlgebra) (s0:ByteArray):Option ((List Int)×Bool):=
 (E3 (a0)).bind fun r1=>
 if (r1)=true then
 (A7 (Bj a0 s0) ((0:Int),A4 Int)).bind fun q35_6=>
 (D8 (a0) (q35_6)).bind fun r36=>
 if (r36)=true then
 (Fh (a0) (q35_6)).bind fun r38=>
 if (r38.toList==s0.toList)=true then
 some (q35_6,true)
 else
 some (A4 Int,false)
 else
 some (A4 Int,false)
 else
 some (A4 Int,false)
theorem Qn {a0:SAlgebra} {s0:ByteArray} {v:((List Int)×Bool)} (h:E4 a0 s0=some v):Ret Tryd.prog Hx [(Ag false) a0,V.str s0] ((fun r=>V.tup [(slr true 1 Af) r.1,V.bool r.2]) v):=by
 refine Bp Zj (Nat.le_of_ble_eq_true rfl) ?_
 unfold E4 at h
 conv=>whnf
 refine Cells.lit rfl rfl ?_
 conv=>whnf
 refine CallQ.o V.bool (by first | rfl | simp only [Aa,V.fz,fzL,V.up,upL,Ab,Ac,Ad,slr,List.cons_append,List.nil_append] | simp [Aa,V.fz,fzL,V.up,upL,Ab,Ac,Ad,slr]) h (fun r h=>Pp h) (fun r1 h=> ?_)
 conv=>whnf
 refine Br.flip ?_
 conv=>whnf
 refine Br.ob h (fun p2 h=> ?_) (fun p2 h=> ?_)
 ·conv=>whnf
  refine BslQ.o Af (A4 Int) (by exact fun _=>⟨rfl,rfl⟩) (by first | rfl | (simp only [Aa,V.fz,fzL,V.up,upL,Ab,Ac,Ad,slr,List.cons_append,List.nil_append];done) | simp [Aa,V.fz,fzL,V.up,upL,Ab,Ac,Ad,slr]) ?_
  conv=>whnf
  refine LoopQ.o [7,6,2,1] (Ia a0 s0) (Mi a0 s0) h (fun s o h=>Vd s o h) (by first | rfl | simp [restrict,look,Aa,V.fz,fzL,V.up,upL,Ab,Ac,Ad,slr]) (fun _=>rfl) ?_
  rintro q35_6 h
  try dsimp only at h
  conv=>whnf
  refine Cells.lit rfl rfl ?_
  conv=>whnf
  refine CallQ.rd V.bool (by first | rfl | simp only [V.fz,fzL,Ab,slr] | simp [Aa,V.fz,fzL,V.up,upL,Ab,Ac,Ad,slr]) (fun _=>rfl) h (fun r h=>Io h) (fun r36 h=> ?_)
  conv=>whnf
  refine Br.flip ?_
  conv=>whnf
  refine Br.ob h (fun p37 h=> ?_) (fun p37 h=> ?_)
  ·conv=>whnf
   refine Cells.lit rfl rfl ?_
   conv=>whnf
   refine Br.no ?_
   conv=>whnf
   refine Br.no ?_
   conv=>whnf
   refine CallQ.rd V.str (by first | rfl | simp only [V.fz,fzL,Ab,slr] | simp [Aa,V.fz,fzL,V.up,upL,Ab,Ac,Ad,slr]) (fun _=>rfl) h (fun r h=>Rw h) (fun r38 h=> ?_)
   conv=>whnf
   refine Br.no ?_
   conv=>whnf
   refine Br.no ?_
   conv=>whnf
   refine Br.no ?_
   conv=>whnf
   refine Br.flip ?_
   conv=>whnf
   refine Br.ob h (fun p39 h=> ?_) (fun p39 h=> ?_)
   ·conv=>whnf
    cases h;exact (by first | rfl | simp only [Ah,Aa,V.fz,fzL,V.up,upL,Ab,Ac,Ad,slr] | simp [Ah,Aa,V.fz,fzL,V.up,upL,Ab,Ac,Ad,slr])
   conv=>whnf
   refine BslQ.o Af (A4 Int) (by exact fun _=>⟨rfl,rfl⟩) (by first | rfl | (simp only [Aa,V.fz,fzL,V.up,upL,Ab,Ac,Ad,slr,List.cons_append,List.nil_append];done) | simp [Aa,V.fz,fzL,V.up,upL,Ab,Ac,Ad,slr]) ?_
   conv=>whnf
   cases h;exact (by first | rfl | simp only [Ah,Aa,V.fz,fzL,V.up,upL,Ab,Ac,Ad,slr] | simp [Ah,Aa,V.fz,fzL,V.up,upL,Ab,Ac,Ad,slr])
  conv=>whnf
  refine Br.yes ?_
  conv=>whnf
  refine Br.yes ?_
  conv=>whnf
  refine Br.yes ?_
  conv=>whnf
  refine Br.yes ?_
  conv=>whnf
  refine Br.yes ?_
  conv=>whnf
  refine Br.yes ?_
  conv=>whnf
  refine BslQ.o Af (A4 Int) (by exact fun _=>⟨rfl,rfl⟩) (by first | rfl | (simp only [Aa,V.fz,fzL,V.up,upL,Ab,Ac,Ad,slr,List.cons_append,List.nil_append];done) | simp [Aa,V.fz,fzL,V.up,upL,Ab,Ac,Ad,slr]) ?_
  conv=>whnf
  cases h;exact (by first | rfl | simp only [Ah,Aa,V.fz,fzL,V.up,upL,Ab,Ac,Ad,slr] | simp [Ah,Aa,V.fz,fzL,V.up,upL,Ab,Ac,Ad,slr])
 conv=>whnf
 refine BslQ.o Af (A4 Int) (by exact fun _=>⟨rfl,rfl⟩) (by first | rfl | (simp only [Aa,V.fz,fzL,V.up,upL,Ab,Ac,Ad,slr,List.cons_append,List.nil_append];done) | simp [Aa,V.fz,fzL,V.up,upL,Ab,Ac,Ad,slr]) ?_
 conv=>whnf
 cases h;exact (by first | rfl | simp only [Ah,Aa,V.fz,fzL,V.up,upL,Ab,Ac,Ad,slr] | simp [Ah,Aa,V.fz,fzL,V.up,upL,Ab,Ac,Ad,slr])
noncomputable def D5 (a0:SAlgebra) (t0:(List Int)):Option Bool:=
 (E3 (a0)).bind fun r1=>
 if (r1)=true then
 (D8 (a0) (t0)).bind fun r3=>
 some r3
 else
 some false
theorem Iy {a0:SAlgebra} {t0:(List Int)} {v:Bool} (h:D5 a0 t0=some v):Ret Tryd.prog Fu [(Ag false) a0,(slr false 1 Af) t0] (V.bool v):=by
 refine Bp Af2 (Nat.le_of_ble_eq_true rfl) ?_
 unfold D5 at h
 conv=>whnf
 refine Cells.lit rfl rfl ?_
 conv=>whnf
 refine CallQ.o V.bool (by first | rfl | simp only [Aa,V.fz,fzL,V.up,upL,Ab,Ac,Ad,slr,List.cons_append,List.nil_append] | simp [Aa,V.fz,fzL,V.up,upL,Ab,Ac,Ad,slr]) h (fun r h=>Pp h) (fun r1 h=> ?_)
 conv=>whnf
 refine Br.ob h (fun p2 h=> ?_) (fun p2 h=> ?_)
 ·conv=>whnf
  refine Cells.lit rfl rfl ?_
  conv=>whnf
  refine Br.yes ?_
  conv=>whnf
  refine Br.yes ?_
  conv=>whnf
  refine CallQ.o V.bool (by first | rfl | simp only [Aa,V.fz,fzL,V.up,upL,Ab,Ac,Ad,slr,List.cons_append,List.nil_append] | simp [Aa,V.fz,fzL,V.up,upL,Ab,Ac,Ad,slr]) h (fun r h=>Io h) (fun r3 h=> ?_)
  conv=>whnf
  refine Br.yes ?_
  conv=>whnf
  cases h;exact (by first | rfl | simp only [Ah,Aa,V.fz,fzL,V.up,upL,Ab,Ac,Ad,slr] | simp [Ah,Aa,V.fz,fzL,V.up,upL,Ab,Ac,Ad,slr])
 conv=>whnf
 refine Br.no ?_
 conv=>whnf
 refine Br.no ?_
 conv=>whnf
 refine Br.no ?_
 conv=>whnf
 cases h;exact (by first | rfl | simp only [Ah,Aa,V.fz,fzL,V.up,upL,Ab,Ac,Ad,slr] | simp [Ah,Aa,V.fz,fzL,V.up,upL,Ab,Ac,Ad,slr])
noncomputable def Cq (a0:SAlgebra) (t0:(List Int)):Option Bool:=
 (G2 (a0)).bind fun r1=>
 if (r1)=true then
 (E0 (a0) (t0)).bind fun r3=>
 some r3
 else
 some false
theorem Fb {a0:SAlgebra} {t0:(List Int)} {v:Bool} (h:Cq a0 t0=some v):Ret Tryd.prog Dk [(Ag false) a0,(slr false 1 Af) t0] (V.bool v):=by
 refine Bp Ae6 (Nat.le_of_ble_eq_true rfl) ?_
 unfold Cq at h
 conv=>whnf
 refine Cells.lit rfl rfl ?_
 conv=>whnf
 refine CallQ.o V.bool (by first | rfl | simp only [Aa,V.fz,fzL,V.up,upL,Ab,Ac,Ad,slr,List.cons_append,List.nil_append] | simp [Aa,V.fz,fzL,V.up,upL,Ab,Ac,Ad,slr]) h (fun r h=>V8 h) (fun r1 h=> ?_)
 conv=>whnf
 refine Br.ob h (fun p2 h=> ?_) (fun p2 h=> ?_)
 ·conv=>whnf
  refine Cells.lit rfl rfl ?_
  conv=>whnf
  refine Br.yes ?_
  conv=>whnf
  refine Br.yes ?_
  conv=>whnf
  refine CallQ.o V.bool (by first | rfl | simp only [Aa,V.fz,fzL,V.up,upL,Ab,Ac,Ad,slr,List.cons_append,List.nil_append] | simp [Aa,V.fz,fzL,V.up,upL,Ab,Ac,Ad,slr]) h (fun r h=>Lc h) (fun r3 h=> ?_)
  conv=>whnf
  refine Br.yes ?_
  conv=>whnf
  cases h;exact (by first | rfl | simp only [Ah,Aa,V.fz,fzL,V.up,upL,Ab,Ac,Ad,slr] | simp [Ah,Aa,V.fz,fzL,V.up,upL,Ab,Ac,Ad,slr])
 conv=>whnf
 refine Br.no ?_
 conv=>whnf
 refine Br.no ?_
 conv=>whnf
 refine Br.no ?_
 conv=>whnf
 cases h;exact (by first | rfl | simp only [Ah,Aa,V.fz,fzL,V.up,upL,Ab,Ac,Ad,slr] | simp [Ah,Aa,V.fz,fzL,V.up,upL,Ab,Ac,Ad,slr])
noncomputable def C7 (self:SAlgebra→List Int→Option ByteArray) (a0:SAlgebra) (r10:List (List Int)):(Int×ByteArray)→Option ((Int×ByteArray) ⊕ ByteArray):=fun (x7,x5)=>
 if x7<(↑r10.length:Int) then
 ((if x7=(0:Int) then
 ask (x5.size+(ByteArray.mk #[40]).size≤(9223372036854775807:Nat)) <|
 some (x5++(ByteArray.mk #[40]))
 else
 ask (x5.size+(ByteArray.mk #[44]).size≤(9223372036854775807:Nat)) <|
 some (x5++(ByteArray.mk #[44])):Option ByteArray)).bind fun q15_5=>
 ask ((0:Int)≤x7∧x7<(↑r10.length:Int)) <|
 (self (a0) (nth r10 x7.toNat)).bind fun r17=>
 ask (q15_5.size+r17.size≤(9223372036854775807:Nat)) <|
 ask (InI (x7+(1:Int))) <|
 some (.inl (x7+(1:Int),q15_5++r17))
 else
 some (.inr x5)
def K6 (a0:SAlgebra) (r10:List (List Int)):(Int×ByteArray)→St:=fun s=>[(7,A.val (Af s.1)),(6,A.val ((slr true 1 (slr true 1 Af)) (r10))),(5,A.val (V.str s.2)),(2,A.val ((rP true (Ag false)) (a0)))]
def P4 (_a0:SAlgebra) (r10:List (List Int)):ByteArray→Tgt
 | s=>((Ex.exit 0),[6,5],[(6,A.val ((slr true 1 (slr true 1 Af)) (r10))),(5,A.val (V.str s))])
theorem Z2 {self:SAlgebra→List Int→Option ByteArray} {a0:SAlgebra} {r10:List (List Int)} (hself : ∀ {w_0 w_1 v},self w_0 w_1=some v→Ret Tryd.prog De [(Ag false) w_0,(slr false 1 Af) w_1] (V.str v)) (s:(Int×ByteArray)) (o:(Int×ByteArray) ⊕ ByteArray) (h:C7 self a0 r10 s=some o):vc Tryd.prog P0 (Gg [7,6,5,2] (K6 a0 r10) (P4 a0 r10) o) (K6 a0 r10 s):=by
 obtain ⟨x7,x5⟩:=s
 unfold C7 at h
 try dsimp only at h
 conv=>whnf
 refine Len.map ?_
 conv=>whnf
 refine Br.od h (fun p11 h=> ?_) (fun p11 h=> ?_)
 ·conv=>whnf
  refine CutQ.o (fun t:ByteArray=>match t with | s=>(Ex.normal,[5,7,6,2],[(5,A.val (V.str s)),(7,A.val (Af (x7))),(6,A.val ((slr true 1 (slr true 1 Af)) (r10))),(2,A.val ((rP true (Ag false)) (a0)))])) h ?_ ?_
  ·intro t h
   conv=>whnf
   refine Br.oe h (fun p12 h=> ?_) (fun p12 h=> ?_)
   ·conv=>whnf
    refine Ask.o h fun p13 h=> ?_
    conv=>whnf
    cases h;exact ⟨rfl,rfl⟩
   conv=>whnf
   refine Ask.o h fun p14 h=> ?_
   conv=>whnf
   cases h;exact ⟨rfl,rfl⟩
  rintro q15_5 h
  try dsimp only at h
  conv=>whnf
  refine Cells.lit rfl rfl ?_
  conv=>whnf
  refine Len.map ?_
  conv=>whnf
  refine Ask.o h fun p16 h=> ?_
  conv=>whnf
  refine Cells.one (fun _=>⟨rfl,rfl⟩) (by first | omega | (simp [A8] at * <;> omega)) ?_
  conv=>whnf
  refine Kid.one (fun _=>⟨rfl,rfl⟩) (by first | omega | (simp [A8] at * <;> omega)) ?_
  conv=>whnf
  refine CallP.rd V.str (by first | rfl | simp only [Aa,V.fz,fzL,Ab,slr] | simp [Aa,V.fz,fzL,V.up,upL,Ab,Ac,Ad,slr]) (fun _=>rfl) h (fun r h=>hself h) (fun r17 h=> ?_)
  conv=>whnf
  refine Ask.o h fun p18 h=> ?_
  conv=>whnf
  refine Ask.o h fun p19 h=> ?_
  conv=>whnf
  cases h;exact ⟨rfl,rfl⟩
 conv=>whnf
 cases h;exact ⟨rfl,rfl⟩
noncomputable def Ds (self:SAlgebra→(List Int)→Option ByteArray) (a0:SAlgebra) (t0:(List Int)):Option ByteArray:=
 ask ((0:Int)≤(0:Int)∧(0:Int)<(↑t0.length:Int)) <|
 if nth t0 (Int.toNat (0:Int))≥(0:Int) then
 ask ((0:Int)≤(0:Int)∧(0:Int)<(↑t0.length:Int)) <|
 (Li fun n=>Dm n (nth t0 (Int.toNat (0:Int)))).bind fun r4=>
 ask ((ByteArray.mk #[120]).size+r4.size≤(9223372036854775807:Nat)) <|
 some ((ByteArray.mk #[120])++r4)
 else
 ask ((0:Int)≤(0:Int)∧(0:Int)<(↑t0.length:Int)) <|
 ask (InI ((-1:Int)-nth t0 (Int.toNat (0:Int)))) <|
 (Li fun n=>Dm n ((-1:Int)-nth t0 (Int.toNat (0:Int)))).bind fun r8=>
 ask ((ByteArray.mk #[102]).size+r8.size≤(9223372036854775807:Nat)) <|
 (Hs (a0) (t0)).bind fun r10=>
 (A7 (C7 self a0 r10) ((0:Int),(ByteArray.mk #[102])++r8)).bind fun q20_5=>
 if (↑r10.length:Int)>(0:Int) then
 ask (q20_5.size+(ByteArray.mk #[41]).size≤(9223372036854775807:Nat)) <|
 some (q20_5++(ByteArray.mk #[41]))
 else
 some q20_5
noncomputable def Ca:Nat→SAlgebra→(List Int)→Option ByteArray
 | 0=>fun _ _=>none
 | n+1=>Ds (Ca n)
theorem Abw {self:SAlgebra→(List Int)→Option ByteArray} (hself : ∀ {w_0 w_1 v},self w_0 w_1=some v→Ret Tryd.prog De [(Ag false) w_0,(slr false 1 Af) w_1] (V.str v)) {a0:SAlgebra} {t0:(List Int)} {v:ByteArray} (h:Ds self a0 t0=some v):Ret Tryd.prog De [(Ag false) a0,(slr false 1 Af) t0] (V.str v):=by
 refine Bp Agd (Nat.le_of_ble_eq_true rfl) ?_
 unfold Ds at h
 conv=>whnf
 refine Len.map ?_
 conv=>whnf
 refine Ask.o h fun p1 h=> ?_
 conv=>whnf
 refine Elem.o (by first | omega | (simp [A8] at * <;> omega)) ?_
 conv=>whnf
 refine Br.od h (fun p2 h=> ?_) (fun p2 h=> ?_)
 ·conv=>whnf
  refine Len.map ?_
  conv=>whnf
  refine Ask.o h fun p3 h=> ?_
  conv=>whnf
  refine Elem.o (by first | omega | (simp [A8] at * <;> omega)) ?_
  conv=>whnf
  refine CallQ.o V.str (by first | rfl | simp only [Aa,V.fz,fzL,V.up,upL,Ab,Ac,Ad,slr,List.cons_append,List.nil_append] | simp [Aa,V.fz,fzL,V.up,upL,Ab,Ac,Ad,slr]) h (fun r h=>Ye h) (fun r4 h=> ?_)
  conv=>whnf
  refine Ask.o h fun p5 h=> ?_
  conv=>whnf
  cases h;exact (by first | rfl | simp only [Ah,Aa,V.fz,fzL,V.up,upL,Ab,Ac,Ad,slr] | simp [Ah,Aa,V.fz,fzL,V.up,upL,Ab,Ac,Ad,slr])
 conv=>whnf
 refine Len.map ?_
 conv=>whnf
 refine Ask.o h fun p6 h=> ?_
 conv=>whnf
 refine Elem.o (by first | omega | (simp [A8] at * <;> omega)) ?_
 conv=>whnf
 refine Ask.o h fun p7 h=> ?_
 conv=>whnf
 refine CallP.o V.str (by first | rfl | simp only [Aa,V.fz,fzL,V.up,upL,Ab,Ac,Ad,slr,List.cons_append,List.nil_append] | simp [Aa,V.fz,fzL,V.up,upL,Ab,Ac,Ad,slr]) h (fun r h=>Ye h) (fun r8 h=> ?_)
 conv=>whnf
 refine Ask.o h fun p9 h=> ?_
 conv=>whnf
 refine Cells.lit rfl rfl ?_
 conv=>whnf
 refine CallP.o (slr true 1 (slr true 1 Af)) (by first | rfl | simp only [Aa,V.fz,fzL,V.up,upL,Ab,Ac,Ad,slr,List.cons_append,List.nil_append] | simp [Aa,V.fz,fzL,V.up,upL,Ab,Ac,Ad,slr]) h (fun r h=>Ac8 h) (fun r10 h=> ?_)
 conv=>whnf
 refine LoopQ.o [7,6,5,2] (K6 a0 r10) (P4 a0 r10) h (fun s o h=>Z2 hself s o h) (by first | rfl | simp [restrict,look,Aa,V.fz,fzL,V.up,upL,Ab,Ac,Ad,slr]) (fun _=>rfl) ?_
 rintro q20_5 h
 try dsimp only at h
 conv=>whnf
 refine Len.map ?_
 conv=>whnf
 refine Br.od h (fun p21 h=> ?_) (fun p21 h=> ?_)
 ·conv=>whnf
  refine Ask.o h fun p22 h=> ?_
  conv=>whnf
  cases h;exact (by first | rfl | simp only [Ah,Aa,V.fz,fzL,V.up,upL,Ab,Ac,Ad,slr] | simp [Ah,Aa,V.fz,fzL,V.up,upL,Ab,Ac,Ad,slr])
 conv=>whnf
 cases h;exact (by first | rfl | simp only [Ah,Aa,V.fz,fzL,V.up,upL,Ab,Ac,Ad,slr] | simp [Ah,Aa,V.fz,fzL,V.up,upL,Ab,Ac,Ad,slr])
theorem Ro : ∀(n:Nat) {a0:SAlgebra} {t0:(List Int)} {v:ByteArray},Ca n a0 t0=some v→Ret Tryd.prog De [(Ag false) a0,(slr false 1 Af) t0] (V.str v)
 | 0,_,_,_,h=>by cases h
 | n+1,_,_,_,h=>Abw (fun h=>Ro n h) h
theorem Pb {a0:SAlgebra} {t0:(List Int)} {v:ByteArray} (h:(Li fun n=>Ca n a0 t0)=some v):Ret Tryd.prog De [(Ag false) a0,(slr false 1 Af) t0] (V.str v):=by
 obtain ⟨n,hn⟩:=Ts h
 exact Ro n hn
end Go.Proofs.YtbnoclklhcbidaaDoor.Ax
