/-
 What the functions compute, as functions on plain data, and that the program does compute it; written by program.
-/
import Derived.Test.YtbnoclklhcbidaaDoorCode
namespace Go.Proofs.YtbnoclklhcbidaaDoor.Ax
open Go
set_option maxRecDepth 100000
set_option maxHeartbeats 4000000
noncomputable def Oz (code0:(List Int)):Option Bool:=
 some (decide ((↑code0.length:Int)>(65536:Int)))
theorem Akz {code0:(List Int)} {v:Bool} (h:Oz code0=some v):Ret Tryd.prog Sk [(slr false 1 (V.int IntKind.u8)) code0] (V.bool v):=by
 refine Bp Alb (Nat.le_of_ble_eq_true rfl) ?_
 unfold Oz at h
 conv=>whnf
 refine Len.map ?_
 conv=>whnf
 cases h;exact (by first | rfl | simp only [Ah,Aa,V.fz,fzL,V.up,upL,Ab,Ac,Ad,slr] | simp [Ah,Aa,V.fz,fzL,V.up,upL,Ab,Ac,Ad,slr])
noncomputable def Ei (a0:List Int) (b0:List Int):Int→Option (Int ⊕ (Unit ⊕ Unit)):=fun x5=>
 if x5<(↑a0.length:Int) then
 ask ((0:Int)≤x5∧x5<(↑a0.length:Int)) <|
 ask ((0:Int)≤x5∧x5<(↑b0.length:Int)) <|
 if nth a0 x5.toNat≠nth b0 x5.toNat then
 some (.inr (.inl ()))
 else
 ask (InI (x5+(1:Int))) <|
 some (.inl (x5+(1:Int)))
 else
 some (.inr (.inr ()))
def Md (a0:List Int) (b0:List Int):Int→St:=fun s=>[(5,A.val (Af s)),(0,A.val ((slr false 1 Af) (a0))),(1,A.val ((slr false 1 Af) (b0)))]
def Rs (_a0:List Int) (_b0:List Int):(Unit ⊕ Unit)→Tgt
 | (.inl _s)=>(Ex.ret,[4],[(4,A.val (V.bool (false)))])
 | (.inr _s)=>((Ex.exit 0),[],[])
theorem Acc {a0:List Int} {b0:List Int} (x5:Int) (o:Int ⊕ (Unit ⊕ Unit)) (h:Ei a0 b0 x5=some o):vc Tryd.prog Rq (Gg [5,0,1] (Md a0 b0) (Rs a0 b0) o) (Md a0 b0 x5):=by
 unfold Ei at h
 try dsimp only at h
 conv=>whnf
 refine Len.map ?_
 conv=>whnf
 refine Br.od h (fun p2 h=> ?_) (fun p2 h=> ?_)
 ·conv=>whnf
  refine Len.map ?_
  conv=>whnf
  refine Ask.o h fun p3 h=> ?_
  conv=>whnf
  refine Elem.o (by first | omega | (simp [A8] at * <;> omega)) ?_
  conv=>whnf
  refine Len.map ?_
  conv=>whnf
  refine Ask.o h fun p4 h=> ?_
  conv=>whnf
  refine Elem.o (by first | omega | (simp [A8] at * <;> omega)) ?_
  conv=>whnf
  refine Br.on h (fun p5 h=> ?_) (fun p5 h=> ?_)
  ·conv=>whnf
   cases h;exact ⟨rfl,rfl⟩
  conv=>whnf
  refine Ask.o h fun p6 h=> ?_
  conv=>whnf
  cases h;exact ⟨rfl,rfl⟩
 conv=>whnf
 cases h;exact ⟨rfl,rfl⟩
noncomputable def D7 (a0:(List Int)) (b0:(List Int)):Option Bool:=
 if (↑a0.length:Int)≠(↑b0.length:Int) then
 some false
 else
 (A7 (Ei a0 b0) (0:Int)).bind fun t=>match t with
 | (.inl _)=>(some false)
 | (.inr _)=>(some true)
theorem H5 {a0:(List Int)} {b0:(List Int)} {v:Bool} (h:D7 a0 b0=some v):Ret Tryd.prog Fr [(slr false 1 Af) a0,(slr false 1 Af) b0] (V.bool v):=by
 refine Bp Ajb (Nat.le_of_ble_eq_true rfl) ?_
 unfold D7 at h
 conv=>whnf
 refine Len.map ?_
 conv=>whnf
 refine Len.map ?_
 conv=>whnf
 refine Br.on h (fun p1 h=> ?_) (fun p1 h=> ?_)
 ·conv=>whnf
  cases h;exact (by first | rfl | simp only [Ah,Aa,V.fz,fzL,V.up,upL,Ab,Ac,Ad,slr] | simp [Ah,Aa,V.fz,fzL,V.up,upL,Ab,Ac,Ad,slr])
 conv=>whnf
 refine LoopQ.o [5,0,1] (Md a0 b0) (Rs a0 b0) h (fun s o h=>Acc s o h) (by first | rfl | simp [restrict,look,Aa,V.fz,fzL,V.up,upL,Ab,Ac,Ad,slr]) (by rintro (_ | _)<;>rfl) ?_
 rintro (⟨⟩ | ⟨⟩) h
 ·try dsimp only at h
  conv=>whnf
  cases h;exact (by first | rfl | simp only [Ah,Aa,V.fz,fzL,V.up,upL,Ab,Ac,Ad,slr] | simp [Ah,Aa,V.fz,fzL,V.up,upL,Ab,Ac,Ad,slr])
 try dsimp only at h
 conv=>whnf
 cases h;exact (by first | rfl | simp only [Ah,Aa,V.fz,fzL,V.up,upL,Ab,Ac,Ad,slr] | simp [Ah,Aa,V.fz,fzL,V.up,upL,Ab,Ac,Ad,slr])
noncomputable def Bu (s0:ByteArray):(Int×(List Int))→Option ((Int×(List Int)) ⊕ (List Int)):=fun (x4,x3)=>
 ((ask (InI (x4+(1:Int))) <|
 if x4+(1:Int)<(↑s0.size:Int) then
 if (↑x3.length:Int)≤(60:Int) then
 some (.inl ())
 else
 some (.inr ())
 else
 some (.inr ()):Option (Unit ⊕ Unit))).bind fun t=>match t with
 | (.inl _)=>(((ask ((0:Int)≤x4∧x4<(↑s0.size:Int)) <|
 if Cz s0 x4=(120:Int) then
 some true
 else
 ask ((0:Int)≤x4∧x4<(↑s0.size:Int)) <|
 some (Cz s0 x4==(102:Int)):Option Bool)).bind fun q8_28=>
 if (q8_28)=true then
 ask (InI (x4+(1:Int))) <|
 ask ((0:Int)≤x4+(1:Int)∧x4+(1:Int)<(↑s0.size:Int)) <|
 ask (InI (IntKind.i64.wrap (Cz s0 (x4+(1:Int)))-(48:Int))) <|
 ask ((0:Int)≤x4∧x4<(↑s0.size:Int)) <|
 if Cz s0 x4=(102:Int) then
 ask (InI ((-1:Int)-(IntKind.i64.wrap (Cz s0 (x4+(1:Int)))-(48:Int)))) <|
 ask ((x3).length+([(-1:Int)-(IntKind.i64.wrap (Cz s0 (x4+(1:Int)))-(48:Int))]).length≤LIM) <|
 ask (InI (x4+(1:Int))) <|
 some (.inl (x4+(1:Int),x3++[(-1:Int)-(IntKind.i64.wrap (Cz s0 (x4+(1:Int)))-(48:Int))]))
 else
 ask ((x3).length+([IntKind.i64.wrap (Cz s0 (x4+(1:Int)))-(48:Int)]).length≤LIM) <|
 ask (InI (x4+(1:Int))) <|
 some (.inl (x4+(1:Int),x3++[IntKind.i64.wrap (Cz s0 (x4+(1:Int)))-(48:Int)]))
 else
 ask (InI (x4+(1:Int))) <|
 some (.inl (x4+(1:Int),x3)))
 | (.inr _)=>(some (.inr x3))
def Jw (s0:ByteArray):(Int×(List Int))→St:=fun s=>[(4,A.val (Af s.1)),(3,A.val ((slr true 1 Af) s.2)),(0,A.val (V.str (s0)))]
def On (_s0:ByteArray):(List Int)→Tgt
 | s=>((Ex.exit 0),[3],[(3,A.val ((slr true 1 Af) s))])
theorem X1 {s0:ByteArray} (s:(Int×(List Int))) (o:(Int×(List Int)) ⊕ (List Int)) (h:Bu s0 s=some o):vc Tryd.prog Oq (Gg [4,3,0] (Jw s0) (On s0) o) (Jw s0 s):=by
 obtain ⟨x4,x3⟩:=s
 unfold Bu at h
 try dsimp only at h
 conv=>whnf
 refine CutQ.o (fun t:(Unit ⊕ Unit)=>match t with | (.inl s)=>(Ex.normal,[4,3,0],[(4,A.val (Af (x4))),(3,A.val ((slr true 1 Af) (x3))),(0,A.val (V.str (s0)))]) | (.inr s)=>((Ex.exit 0),[3],[(3,A.val ((slr true 1 Af) (x3)))])) h ?_ ?_
 ·intro t h
  conv=>whnf
  refine Ask.o h fun p1 h=> ?_
  conv=>whnf
  refine Br.od h (fun p2 h=> ?_) (fun p2 h=> ?_)
  ·conv=>whnf
   refine Br.yes ?_
   conv=>whnf
   refine Len.map ?_
   conv=>whnf
   refine Br.yes ?_
   conv=>whnf
   refine Br.yes ?_
   conv=>whnf
   refine Br.od h (fun p3 h=> ?_) (fun p3 h=> ?_)
   ·conv=>whnf
    cases h;exact ⟨rfl,rfl⟩
   conv=>whnf
   cases h;exact ⟨rfl,rfl⟩
  conv=>whnf
  refine Br.no ?_
  conv=>whnf
  refine Br.no ?_
  conv=>whnf
  refine Br.no ?_
  conv=>whnf
  refine Br.no ?_
  conv=>whnf
  cases h;exact ⟨rfl,rfl⟩
 rintro (⟨⟩ | ⟨⟩) h
 ·try dsimp only at h
  conv=>whnf
  refine CutQ.o (fun t:Bool=>match t with | s=>(Ex.normal,[28,4,3,0],[(28,A.val (V.bool s)),(4,A.val (Af (x4))),(3,A.val ((slr true 1 Af) (x3))),(0,A.val (V.str (s0)))])) h ?_ ?_
  ·intro t h
   conv=>whnf
   refine Ask.o h fun p5 h=> ?_
   conv=>whnf
   refine Br.oe h (fun p6 h=> ?_) (fun p6 h=> ?_)
   ·conv=>whnf
    refine Br.yes ?_
    conv=>whnf
    refine Br.yes ?_
    conv=>whnf
    refine Br.yes ?_
    conv=>whnf
    refine Br.yes ?_
    conv=>whnf
    cases h;exact ⟨rfl,rfl⟩
   conv=>whnf
   refine Br.no ?_
   conv=>whnf
   refine Br.no ?_
   conv=>whnf
   refine Ask.o h fun p7 h=> ?_
   conv=>whnf
   refine Br.no ?_
   conv=>whnf
   refine Br.no ?_
   conv=>whnf
   cases h;exact ⟨rfl,rfl⟩
  rintro q8_28 h
  try dsimp only at h
  conv=>whnf
  refine Br.ob h (fun p9 h=> ?_) (fun p9 h=> ?_)
  ·conv=>whnf
   refine Ask.o h fun p10 h=> ?_
   conv=>whnf
   refine Ask.o h fun p11 h=> ?_
   conv=>whnf
   refine Ask.o h fun p12 h=> ?_
   conv=>whnf
   refine Ask.o h fun p13 h=> ?_
   conv=>whnf
   refine Br.oe h (fun p14 h=> ?_) (fun p14 h=> ?_)
   ·conv=>whnf
    refine Ask.o h fun p15 h=> ?_
    conv=>whnf
    refine BslQ.o Af ([(-1:Int)-(IntKind.i64.wrap (Cz s0 (x4+(1:Int)))-(48:Int))]) (by exact fun _=>⟨rfl,rfl⟩) (by first | rfl | (simp only [Aa,V.fz,fzL,V.up,upL,Ab,Ac,Ad,slr,List.cons_append,List.nil_append];done) | simp [Aa,V.fz,fzL,V.up,upL,Ab,Ac,Ad,slr]) ?_
    conv=>whnf
    refine NoOwn.o (fun _=>rfl) ?_
    conv=>whnf
    refine AppQ.o (m:=1) Af (by exact fun _=>⟨rfl,rfl⟩) (x3) ([(-1:Int)-(IntKind.i64.wrap (Cz s0 (x4+(1:Int)))-(48:Int))]) (by first | rfl | simp only [Aa,V.fz,fzL,V.up,upL,Ab,Ac,Ad,slr,List.cons_append,List.nil_append] | simp [Aa,V.fz,fzL,V.up,upL,Ab,Ac,Ad,slr]) (by first | rfl | simp only [Aa,V.fz,fzL,V.up,upL,Ab,Ac,Ad,slr,List.cons_append,List.nil_append] | simp [Aa,V.fz,fzL,V.up,upL,Ab,Ac,Ad,slr]) h fun h=> ?_
    conv=>whnf
    refine Ask.o h fun p16 h=> ?_
    conv=>whnf
    cases h;exact ⟨rfl,rfl⟩
   conv=>whnf
   refine BslQ.o Af ([IntKind.i64.wrap (Cz s0 (x4+(1:Int)))-(48:Int)]) (by exact fun _=>⟨rfl,rfl⟩) (by first | rfl | (simp only [Aa,V.fz,fzL,V.up,upL,Ab,Ac,Ad,slr,List.cons_append,List.nil_append];done) | simp [Aa,V.fz,fzL,V.up,upL,Ab,Ac,Ad,slr]) ?_
   conv=>whnf
   refine NoOwn.o (fun _=>rfl) ?_
   conv=>whnf
   refine AppQ.o (m:=1) Af (by exact fun _=>⟨rfl,rfl⟩) (x3) ([IntKind.i64.wrap (Cz s0 (x4+(1:Int)))-(48:Int)]) (by first | rfl | simp only [Aa,V.fz,fzL,V.up,upL,Ab,Ac,Ad,slr,List.cons_append,List.nil_append] | simp [Aa,V.fz,fzL,V.up,upL,Ab,Ac,Ad,slr]) (by first | rfl | simp only [Aa,V.fz,fzL,V.up,upL,Ab,Ac,Ad,slr,List.cons_append,List.nil_append] | simp [Aa,V.fz,fzL,V.up,upL,Ab,Ac,Ad,slr]) h fun h=> ?_
   conv=>whnf
   refine Ask.o h fun p17 h=> ?_
   conv=>whnf
   cases h;exact ⟨rfl,rfl⟩
  conv=>whnf
  refine Ask.o h fun p18 h=> ?_
  conv=>whnf
  cases h;exact ⟨rfl,rfl⟩
 try dsimp only at h
 conv=>whnf
 cases h;exact ⟨rfl,rfl⟩
noncomputable def Js (s0:ByteArray):Option (List Int):=
 (A7 (Bu s0) ((0:Int),A4 Int)).bind fun q19_3=>
 some q19_3
theorem Aej {s0:ByteArray} {v:(List Int)} (h:Js s0=some v):Ret Tryd.prog N6 [V.str s0] ((slr true 1 Af) v):=by
 refine Bp Adm (Nat.le_of_ble_eq_true rfl) ?_
 unfold Js at h
 conv=>whnf
 refine BslQ.o Af (A4 Int) (by exact fun _=>⟨rfl,rfl⟩) (by first | rfl | (simp only [Aa,V.fz,fzL,V.up,upL,Ab,Ac,Ad,slr,List.cons_append,List.nil_append];done) | simp [Aa,V.fz,fzL,V.up,upL,Ab,Ac,Ad,slr]) ?_
 conv=>whnf
 refine LoopQ.o [4,3,0] (Jw s0) (On s0) h (fun s o h=>X1 s o h) (by first | rfl | simp [restrict,look,Aa,V.fz,fzL,V.up,upL,Ab,Ac,Ad,slr]) (fun _=>rfl) ?_
 rintro q19_3 h
 try dsimp only at h
 conv=>whnf
 cases h;exact (by first | rfl | simp only [Ah,Aa,V.fz,fzL,V.up,upL,Ab,Ac,Ad,slr] | simp [Ah,Aa,V.fz,fzL,V.up,upL,Ab,Ac,Ad,slr])
noncomputable def D9 (t0:List Int) (terms0:List (List Int)):(Int×(List Int))→Option ((Int×(List Int)) ⊕ (Unit ⊕ (List Int))):=fun (x12,x6)=>
 if x12<(↑t0.length:Int) then
 ask ((0:Int)≤x12∧x12<(↑t0.length:Int)) <|
 if nth t0 x12.toNat<(0:Int) then
 ask ((x6).length+([nth t0 x12.toNat]).length≤LIM) <|
 ask (InI (x12+(1:Int))) <|
 some (.inl (x12+(1:Int),x6++[nth t0 x12.toNat]))
 else
 if nth t0 x12.toNat≥(↑terms0.length:Int) then
 some (.inr (.inl ()))
 else
 ask ((0:Int)≤nth t0 x12.toNat∧nth t0 x12.toNat<(↑terms0.length:Int)) <|
 ask ((x6).length+(nth terms0 (nth t0 x12.toNat).toNat).length≤LIM) <|
 if (↑(x6++nth terms0 (nth t0 x12.toNat).toNat).length:Int)>(60:Int) then
 some (.inr (.inl ()))
 else
 ask (InI (x12+(1:Int))) <|
 some (.inl (x12+(1:Int),x6++nth terms0 (nth t0 x12.toNat).toNat))
 else
 some (.inr (.inr x6))
def Hp (t0:List Int) (terms0:List (List Int)):(Int×(List Int))→St:=fun s=>[(12,A.val (Af s.1)),(11,A.val (Af ((↑t0.length:Int)))),(10,A.val ((slr false 1 Af) (t0))),(6,A.val ((slr true 1 Af) s.2)),(1,A.val ((slr false 1 (slr false 1 Af)) (terms0)))]
def L0 (_t0:List Int) (_terms0:List (List Int)):(Unit ⊕ (List Int))→Tgt
 | (.inl _s)=>(Ex.ret,[5,4],[(5,A.val (V.bool (false))),(4,A.val ((slr true 1 Af) (A4 Int)))])
 | (.inr s)=>((Ex.exit 0),[6],[(6,A.val ((slr true 1 Af) s))])
theorem Sv {t0:List Int} {terms0:List (List Int)} (s:(Int×(List Int))) (o:(Int×(List Int)) ⊕ (Unit ⊕ (List Int))) (h:D9 t0 terms0 s=some o):vc Tryd.prog Lj (Gg [12,11,10,6,1] (Hp t0 terms0) (L0 t0 terms0) o) (Hp t0 terms0 s):=by
 obtain ⟨x12,x6⟩:=s
 unfold D9 at h
 try dsimp only at h
 conv=>whnf
 refine Br.od h (fun p1 h=> ?_) (fun p1 h=> ?_)
 ·conv=>whnf
  refine Len.map ?_
  conv=>whnf
  refine Ask.o h fun p2 h=> ?_
  conv=>whnf
  refine Elem.o (by first | omega | (simp [A8] at * <;> omega)) ?_
  conv=>whnf
  refine Br.od h (fun p3 h=> ?_) (fun p3 h=> ?_)
  ·conv=>whnf
   refine BslQ.o Af ([nth t0 x12.toNat]) (by exact fun _=>⟨rfl,rfl⟩) (by first | rfl | (simp only [Aa,V.fz,fzL,V.up,upL,Ab,Ac,Ad,slr,List.cons_append,List.nil_append];done) | simp [Aa,V.fz,fzL,V.up,upL,Ab,Ac,Ad,slr]) ?_
   conv=>whnf
   refine NoOwn.o (fun _=>rfl) ?_
   conv=>whnf
   refine AppQ.o (m:=1) Af (by exact fun _=>⟨rfl,rfl⟩) (x6) ([nth t0 x12.toNat]) (by first | rfl | simp only [Aa,V.fz,fzL,V.up,upL,Ab,Ac,Ad,slr,List.cons_append,List.nil_append] | simp [Aa,V.fz,fzL,V.up,upL,Ab,Ac,Ad,slr]) (by first | rfl | simp only [Aa,V.fz,fzL,V.up,upL,Ab,Ac,Ad,slr,List.cons_append,List.nil_append] | simp [Aa,V.fz,fzL,V.up,upL,Ab,Ac,Ad,slr]) h fun h=> ?_
   conv=>whnf
   refine Ask.o h fun p4 h=> ?_
   conv=>whnf
   cases h;exact ⟨rfl,rfl⟩
  conv=>whnf
  refine Len.map ?_
  conv=>whnf
  refine Br.od h (fun p5 h=> ?_) (fun p5 h=> ?_)
  ·conv=>whnf
   refine BslQ.o Af (A4 Int) (by exact fun _=>⟨rfl,rfl⟩) (by first | rfl | (simp only [Aa,V.fz,fzL,V.up,upL,Ab,Ac,Ad,slr,List.cons_append,List.nil_append];done) | simp [Aa,V.fz,fzL,V.up,upL,Ab,Ac,Ad,slr]) ?_
   conv=>whnf
   cases h;exact ⟨rfl,rfl⟩
  conv=>whnf
  refine Len.map ?_
  conv=>whnf
  refine Ask.o h fun p6 h=> ?_
  conv=>whnf
  refine Elem.o (by first | omega | (simp [A8] at * <;> omega)) ?_
  conv=>whnf
  refine AppQ.o (m:=1) Af (by exact fun _=>⟨rfl,rfl⟩) (x6) (nth terms0 (nth t0 x12.toNat).toNat) (by first | rfl | simp only [Aa,V.fz,fzL,V.up,upL,Ab,Ac,Ad,slr,List.cons_append,List.nil_append] | simp [Aa,V.fz,fzL,V.up,upL,Ab,Ac,Ad,slr]) (by first | rfl | simp only [Aa,V.fz,fzL,V.up,upL,Ab,Ac,Ad,slr,List.cons_append,List.nil_append] | simp [Aa,V.fz,fzL,V.up,upL,Ab,Ac,Ad,slr]) h fun h=> ?_
  conv=>whnf
  refine Len.map ?_
  conv=>whnf
  refine Br.od h (fun p7 h=> ?_) (fun p7 h=> ?_)
  ·conv=>whnf
   refine BslQ.o Af (A4 Int) (by exact fun _=>⟨rfl,rfl⟩) (by first | rfl | (simp only [Aa,V.fz,fzL,V.up,upL,Ab,Ac,Ad,slr,List.cons_append,List.nil_append];done) | simp [Aa,V.fz,fzL,V.up,upL,Ab,Ac,Ad,slr]) ?_
   conv=>whnf
   cases h;exact ⟨rfl,rfl⟩
  conv=>whnf
  refine Ask.o h fun p8 h=> ?_
  conv=>whnf
  cases h;exact ⟨rfl,rfl⟩
 conv=>whnf
 cases h;exact ⟨rfl,rfl⟩
noncomputable def Fp (t0:(List Int)) (terms0:(List (List Int))):Option ((List Int)×Bool):=
 (A7 (D9 t0 terms0) ((0:Int),A4 Int)).bind fun t=>match t with
 | (.inl _)=>(some (A4 Int,false))
 | (.inr q9_6)=>(if (↑q9_6.length:Int)>(60:Int) then
 some (A4 Int,false)
 else
 some (q9_6,true))
theorem Xp {t0:(List Int)} {terms0:(List (List Int))} {v:((List Int)×Bool)} (h:Fp t0 terms0=some v):Ret Tryd.prog Jo [(slr false 1 Af) t0,(slr false 1 (slr false 1 Af)) terms0] ((fun r=>V.tup [(slr true 1 Af) r.1,V.bool r.2]) v):=by
 refine Bp Yx (Nat.le_of_ble_eq_true rfl) ?_
 unfold Fp at h
 conv=>whnf
 refine BslQ.o Af (A4 Int) (by exact fun _=>⟨rfl,rfl⟩) (by first | rfl | (simp only [Aa,V.fz,fzL,V.up,upL,Ab,Ac,Ad,slr,List.cons_append,List.nil_append];done) | simp [Aa,V.fz,fzL,V.up,upL,Ab,Ac,Ad,slr]) ?_
 conv=>whnf
 refine Len.map ?_
 conv=>whnf
 refine LoopQ.o [12,11,10,6,1] (Hp t0 terms0) (L0 t0 terms0) h (fun s o h=>Sv s o h) (by first | rfl | simp [restrict,look,Aa,V.fz,fzL,V.up,upL,Ab,Ac,Ad,slr]) (by rintro (_ | _)<;>rfl) ?_
 rintro (⟨⟩ | q9_6) h
 ·try dsimp only at h
  conv=>whnf
  cases h;exact (by first | rfl | simp only [Ah,Aa,V.fz,fzL,V.up,upL,Ab,Ac,Ad,slr] | simp [Ah,Aa,V.fz,fzL,V.up,upL,Ab,Ac,Ad,slr])
 try dsimp only at h
 conv=>whnf
 refine Len.map ?_
 conv=>whnf
 refine Br.od h (fun p10 h=> ?_) (fun p10 h=> ?_)
 ·conv=>whnf
  refine BslQ.o Af (A4 Int) (by exact fun _=>⟨rfl,rfl⟩) (by first | rfl | (simp only [Aa,V.fz,fzL,V.up,upL,Ab,Ac,Ad,slr,List.cons_append,List.nil_append];done) | simp [Aa,V.fz,fzL,V.up,upL,Ab,Ac,Ad,slr]) ?_
  conv=>whnf
  cases h;exact (by first | rfl | simp only [Ah,Aa,V.fz,fzL,V.up,upL,Ab,Ac,Ad,slr] | simp [Ah,Aa,V.fz,fzL,V.up,upL,Ab,Ac,Ad,slr])
 conv=>whnf
 cases h;exact (by first | rfl | simp only [Ah,Aa,V.fz,fzL,V.up,upL,Ab,Ac,Ad,slr] | simp [Ah,Aa,V.fz,fzL,V.up,upL,Ab,Ac,Ad,slr])
noncomputable def Dl (self:Int→Option ByteArray) (n0:Int):Option ByteArray:=
 if n0<(0:Int) then
 (self (IntKind.i64.wrap ((0:Int)-n0))).bind fun r2=>
 ask ((ByteArray.mk #[45]).size+r2.size≤(9223372036854775807:Nat)) <|
 some ((ByteArray.mk #[45])++r2)
 else
 if n0<(10:Int) then
 ask (InI (n0+(1:Int))) <|
 ask ((0:Int)≤n0∧n0≤n0+(1:Int)∧n0+(1:Int)≤(↑(ByteArray.mk #[48,49,50,51,52,53,54,55,56,57]).size:Int)) <|
 some ((ByteArray.mk #[48,49,50,51,52,53,54,55,56,57]).extract n0.toNat (n0+(1:Int)).toNat)
 else
 ask ((10:Int)≠(0:Int)∧InI (n0.tdiv (10:Int))) <|
 (self (n0.tdiv (10:Int))).bind fun r8=>
 ask (InI (n0.tmod (10:Int)+(1:Int))) <|
 ask ((0:Int)≤n0.tmod (10:Int)∧n0.tmod (10:Int)≤n0.tmod (10:Int)+(1:Int)∧n0.tmod (10:Int)+(1:Int)≤(↑(ByteArray.mk #[48,49,50,51,52,53,54,55,56,57]).size:Int)) <|
 ask (r8.size+((ByteArray.mk #[48,49,50,51,52,53,54,55,56,57]).extract (n0.tmod (10:Int)).toNat (n0.tmod (10:Int)+(1:Int)).toNat).size≤(9223372036854775807:Nat)) <|
 some (r8++(ByteArray.mk #[48,49,50,51,52,53,54,55,56,57]).extract (n0.tmod (10:Int)).toNat (n0.tmod (10:Int)+(1:Int)).toNat)
noncomputable def Dm:Nat→Int→Option ByteArray
 | 0=>fun _=>none
 | n+1=>Dl (Dm n)
theorem Afa {self:Int→Option ByteArray} (hself : ∀ {w_0 v},self w_0=some v→Ret Tryd.prog Ew [Af w_0] (V.str v)) {n0:Int} {v:ByteArray} (h:Dl self n0=some v):Ret Tryd.prog Ew [Af n0] (V.str v):=by
 refine Bp Aht (Nat.le_of_ble_eq_true rfl) ?_
 unfold Dl at h
 conv=>whnf
 refine Br.od h (fun p1 h=> ?_) (fun p1 h=> ?_)
 ·conv=>whnf
  refine CallQ.o V.str (by first | rfl | simp only [Aa,V.fz,fzL,V.up,upL,Ab,Ac,Ad,slr,List.cons_append,List.nil_append] | simp [Aa,V.fz,fzL,V.up,upL,Ab,Ac,Ad,slr]) h (fun r h=>hself h) (fun r2 h=> ?_)
  conv=>whnf
  refine Ask.o h fun p3 h=> ?_
  conv=>whnf
  cases h;exact (by first | rfl | simp only [Ah,Aa,V.fz,fzL,V.up,upL,Ab,Ac,Ad,slr] | simp [Ah,Aa,V.fz,fzL,V.up,upL,Ab,Ac,Ad,slr])
 conv=>whnf
 refine Br.od h (fun p4 h=> ?_) (fun p4 h=> ?_)
 ·conv=>whnf
  refine Ask.o h fun p5 h=> ?_
  conv=>whnf
  refine Ask.o h fun p6 h=> ?_
  conv=>whnf
  cases h;exact (by first | rfl | simp only [Ah,Aa,V.fz,fzL,V.up,upL,Ab,Ac,Ad,slr] | simp [Ah,Aa,V.fz,fzL,V.up,upL,Ab,Ac,Ad,slr])
 conv=>whnf
 refine Ask.o h fun p7 h=> ?_
 conv=>whnf
 refine CallP.o V.str (by first | rfl | simp only [Aa,V.fz,fzL,V.up,upL,Ab,Ac,Ad,slr,List.cons_append,List.nil_append] | simp [Aa,V.fz,fzL,V.up,upL,Ab,Ac,Ad,slr]) h (fun r h=>hself h) (fun r8 h=> ?_)
 conv=>whnf
 refine Ask.mk (by decide) ?_
 conv=>whnf
 refine Ask.mk (by decide) ?_
 conv=>whnf
 refine Ask.o h fun p9 h=> ?_
 conv=>whnf
 refine Ask.o h fun p10 h=> ?_
 conv=>whnf
 refine Ask.o h fun p11 h=> ?_
 conv=>whnf
 cases h;exact (by first | rfl | simp only [Ah,Aa,V.fz,fzL,V.up,upL,Ab,Ac,Ad,slr] | simp [Ah,Aa,V.fz,fzL,V.up,upL,Ab,Ac,Ad,slr])
theorem Tf : ∀(n:Nat) {n0:Int} {v:ByteArray},Dm n n0=some v→Ret Tryd.prog Ew [Af n0] (V.str v)
 | 0,_,_,h=>by cases h
 | n+1,_,_,h=>Afa (fun h=>Tf n h) h
theorem Ye {n0:Int} {v:ByteArray} (h:(Li fun n=>Dm n n0)=some v):Ret Tryd.prog Ew [Af n0] (V.str v):=by
 obtain ⟨n,hn⟩:=Ts h
 exact Tf n hn
noncomputable def Dz (list0:List Int) (n0:Int):Int→Option (Int ⊕ (Unit ⊕ Unit)):=fun x9=>
 if x9<(↑list0.length:Int) then
 ask ((0:Int)≤x9∧x9<(↑list0.length:Int)) <|
 if nth list0 x9.toNat<(0:Int) then
 some (.inr (.inl ()))
 else
 if nth list0 x9.toNat≥n0 then
 some (.inr (.inl ()))
 else
 ask (InI (x9+(1:Int))) <|
 some (.inl (x9+(1:Int)))
 else
 some (.inr (.inr ()))
def K4 (list0:List Int) (n0:Int):Int→St:=fun s=>[(9,A.val (Af s)),(8,A.val (Af ((↑list0.length:Int)))),(7,A.val ((slr false 1 Af) (list0))),(1,A.val (Af (n0)))]
def Qk (_list0:List Int) (_n0:Int):(Unit ⊕ Unit)→Tgt
 | (.inl _s)=>(Ex.ret,[4],[(4,A.val (V.bool (false)))])
 | (.inr _s)=>((Ex.exit 0),[],[])
theorem Y4 {list0:List Int} {n0:Int} (x9:Int) (o:Int ⊕ (Unit ⊕ Unit)) (h:Dz list0 n0 x9=some o):vc Tryd.prog Qi (Gg [9,8,7,1] (K4 list0 n0) (Qk list0 n0) o) (K4 list0 n0 x9):=by
 unfold Dz at h
 try dsimp only at h
 conv=>whnf
 refine Br.od h (fun p1 h=> ?_) (fun p1 h=> ?_)
 ·conv=>whnf
  refine Len.map ?_
  conv=>whnf
  refine Ask.o h fun p2 h=> ?_
  conv=>whnf
  refine Elem.o (by first | omega | (simp [A8] at * <;> omega)) ?_
  conv=>whnf
  refine Br.od h (fun p3 h=> ?_) (fun p3 h=> ?_)
  ·conv=>whnf
   refine Br.yes ?_
   conv=>whnf
   refine Br.yes ?_
   conv=>whnf
   refine Br.yes ?_
   conv=>whnf
   refine Br.yes ?_
   conv=>whnf
   cases h;exact ⟨rfl,rfl⟩
  conv=>whnf
  refine Br.no ?_
  conv=>whnf
  refine Br.no ?_
  conv=>whnf
  refine Br.no ?_
  conv=>whnf
  refine Br.od h (fun p4 h=> ?_) (fun p4 h=> ?_)
  ·conv=>whnf
   cases h;exact ⟨rfl,rfl⟩
  conv=>whnf
  refine Ask.o h fun p5 h=> ?_
  conv=>whnf
  cases h;exact ⟨rfl,rfl⟩
 conv=>whnf
 cases h;exact ⟨rfl,rfl⟩
noncomputable def Il (list0:(List Int)) (n0:Int):Option Bool:=
 (A7 (Dz list0 n0) (0:Int)).bind fun t=>match t with
 | (.inl _)=>(some false)
 | (.inr _)=>(some true)
theorem Agm {list0:(List Int)} {n0:Int} {v:Bool} (h:Il list0 n0=some v):Ret Tryd.prog Pi [(slr false 1 Af) list0,Af n0] (V.bool v):=by
 refine Bp Agr (Nat.le_of_ble_eq_true rfl) ?_
 unfold Il at h
 conv=>whnf
 refine Len.map ?_
 conv=>whnf
 refine LoopQ.o [9,8,7,1] (K4 list0 n0) (Qk list0 n0) h (fun s o h=>Y4 s o h) (by first | rfl | simp [restrict,look,Aa,V.fz,fzL,V.up,upL,Ab,Ac,Ad,slr]) (by rintro (_ | _)<;>rfl) ?_
 rintro (⟨⟩ | ⟨⟩) h
 ·try dsimp only at h
  conv=>whnf
  cases h;exact (by first | rfl | simp only [Ah,Aa,V.fz,fzL,V.up,upL,Ab,Ac,Ad,slr] | simp [Ah,Aa,V.fz,fzL,V.up,upL,Ab,Ac,Ad,slr])
 try dsimp only at h
 conv=>whnf
 cases h;exact (by first | rfl | simp only [Ah,Aa,V.fz,fzL,V.up,upL,Ab,Ac,Ad,slr] | simp [Ah,Aa,V.fz,fzL,V.up,upL,Ab,Ac,Ad,slr])
noncomputable def B6 (a0:SAlgebra) (t0:List Int):(Int×Int)→Option ((Int×Int) ⊕ (Unit ⊕ Int)):=fun (x7,x2)=>
 if x7>(0:Int) then
 if x2≥(↑t0.length:Int) then
 some (.inr (.inl ()))
 else
 ask ((0:Int)≤x2∧x2<(↑t0.length:Int)) <|
 ((if nth t0 x2.toNat≥(6:Int) then
 some true
 else
 some (decide (nth t0 x2.toNat<IntKind.i64.wrap ((0:Int)-(↑a0.Ops.length:Int)))):Option Bool)).bind fun q5_29=>
 if (q5_29)=true then
 some (.inr (.inl ()))
 else
 if nth t0 x2.toNat≥(0:Int) then
 ask (InI (x7-(1:Int))) <|
 ask (InI (x2+(1:Int))) <|
 some (.inl (x7-(1:Int),x2+(1:Int)))
 else
 ask (InI ((-1:Int)-nth t0 x2.toNat)) <|
 ask ((0:Int)≤(-1:Int)-nth t0 x2.toNat∧(-1:Int)-nth t0 x2.toNat<(↑a0.Ops.length:Int)) <|
 ask (InI ((nth a0.Ops ((-1:Int)-nth t0 x2.toNat).toNat).Arity-(1:Int))) <|
 ask (InI (x7+((nth a0.Ops ((-1:Int)-nth t0 x2.toNat).toNat).Arity-(1:Int)))) <|
 ask (InI (x2+(1:Int))) <|
 some (.inl (x7+((nth a0.Ops ((-1:Int)-nth t0 x2.toNat).toNat).Arity-(1:Int)),x2+(1:Int)))
 else
 some (.inr (.inr x2))
def L6 (a0:SAlgebra) (t0:List Int):(Int×Int)→St:=fun s=>[(7,A.val (Af s.1)),(3,A.val ((rP true (Ag false)) (a0))),(1,A.val ((slr false 1 Af) (t0))),(2,A.val (Af s.2))]
def R1 (_a0:SAlgebra) (_t0:List Int):(Unit ⊕ Int)→Tgt
 | (.inl _s)=>(Ex.ret,[6],[(6,A.val (Af ((-1:Int))))])
 | (.inr s)=>((Ex.exit 0),[2],[(2,A.val (Af s))])
theorem Aby {a0:SAlgebra} {t0:List Int} (s:(Int×Int)) (o:(Int×Int) ⊕ (Unit ⊕ Int)) (h:B6 a0 t0 s=some o):vc Tryd.prog Rj (Gg [7,3,1,2] (L6 a0 t0) (R1 a0 t0) o) (L6 a0 t0 s):=by
 obtain ⟨x7,x2⟩:=s
 unfold B6 at h
 try dsimp only at h
 conv=>whnf
 refine Br.od h (fun p1 h=> ?_) (fun p1 h=> ?_)
 ·conv=>whnf
  refine Len.map ?_
  conv=>whnf
  refine Br.od h (fun p2 h=> ?_) (fun p2 h=> ?_)
  ·conv=>whnf
   cases h;exact ⟨rfl,rfl⟩
  conv=>whnf
  refine Len.map ?_
  conv=>whnf
  refine Ask.o h fun p3 h=> ?_
  conv=>whnf
  refine Elem.o (by first | omega | (simp [A8] at * <;> omega)) ?_
  conv=>whnf
  refine CutQ.o (fun t:Bool=>match t with | s=>(Ex.normal,[29,8,7,3,1,2],[(29,A.val (V.bool s)),(8,A.val (Af (nth t0 x2.toNat))),(7,A.val (Af (x7))),(3,A.val ((rP true (Ag false)) (a0))),(1,A.val ((slr false 1 Af) (t0))),(2,A.val (Af (x2)))])) h ?_ ?_
  ·intro t h
   conv=>whnf
   refine Br.od h (fun p4 h=> ?_) (fun p4 h=> ?_)
   ·conv=>whnf
    refine Br.yes ?_
    conv=>whnf
    refine Br.yes ?_
    conv=>whnf
    refine Br.yes ?_
    conv=>whnf
    refine Br.yes ?_
    conv=>whnf
    refine Br.yes ?_
    conv=>whnf
    refine Br.yes ?_
    conv=>whnf
    cases h;exact ⟨rfl,rfl⟩
   conv=>whnf
   refine Br.no ?_
   conv=>whnf
   refine Br.no ?_
   conv=>whnf
   refine Cells.lit rfl rfl ?_
   conv=>whnf
   refine Br.no ?_
   conv=>whnf
   refine Len.map ?_
   conv=>whnf
   refine Br.no ?_
   conv=>whnf
   refine Br.no ?_
   conv=>whnf
   refine Br.no ?_
   conv=>whnf
   cases h;exact ⟨rfl,rfl⟩
  rintro q5_29 h
  try dsimp only at h
  conv=>whnf
  refine Br.ob h (fun p6 h=> ?_) (fun p6 h=> ?_)
  ·conv=>whnf
   cases h;exact ⟨rfl,rfl⟩
  conv=>whnf
  refine Br.od h (fun p7 h=> ?_) (fun p7 h=> ?_)
  ·conv=>whnf
   refine Ask.o h fun p8 h=> ?_
   conv=>whnf
   refine Ask.o h fun p9 h=> ?_
   conv=>whnf
   cases h;exact ⟨rfl,rfl⟩
  conv=>whnf
  refine Cells.lit rfl rfl ?_
  conv=>whnf
  refine Ask.o h fun p10 h=> ?_
  conv=>whnf
  refine Len.map ?_
  conv=>whnf
  refine Ask.o h fun p11 h=> ?_
  conv=>whnf
  refine Elem.o (by first | omega | (simp [A8] at * <;> omega)) ?_
  conv=>whnf
  refine Ask.o h fun p12 h=> ?_
  conv=>whnf
  refine Ask.o h fun p13 h=> ?_
  conv=>whnf
  refine Ask.o h fun p14 h=> ?_
  conv=>whnf
  cases h;exact ⟨rfl,rfl⟩
 conv=>whnf
 cases h;exact ⟨rfl,rfl⟩
noncomputable def Gq (a0:SAlgebra) (t0:(List Int)) (at0:Int):Option Int:=
 (A7 (B6 a0 t0) ((1:Int),at0)).bind fun t=>match t with
 | (.inl _)=>(some (-1:Int))
 | (.inr q15_2)=>(some q15_2)
theorem Xh {a0:SAlgebra} {t0:(List Int)} {at0:Int} {v:Int} (h:Gq a0 t0 at0=some v):Ret Tryd.prog M1 [(Ag false) a0,(slr false 1 Af) t0,Af at0] (Af v):=by
 refine Bp Aie (Nat.le_of_ble_eq_true rfl) ?_
 unfold Gq at h
 conv=>whnf
 refine LoopQ.o [7,3,1,2] (L6 a0 t0) (R1 a0 t0) h (fun s o h=>Aby s o h) (by first | rfl | simp [restrict,look,Aa,V.fz,fzL,V.up,upL,Ab,Ac,Ad,slr]) (by rintro (_ | _)<;>rfl) ?_
 rintro (⟨⟩ | q15_2) h
 ·try dsimp only at h
  conv=>whnf
  cases h;exact (by first | rfl | simp only [Ah,Aa,V.fz,fzL,V.up,upL,Ab,Ac,Ad,slr] | simp [Ah,Aa,V.fz,fzL,V.up,upL,Ab,Ac,Ad,slr])
 try dsimp only at h
 conv=>whnf
 cases h;exact (by first | rfl | simp only [Ah,Aa,V.fz,fzL,V.up,upL,Ab,Ac,Ad,slr] | simp [Ah,Aa,V.fz,fzL,V.up,upL,Ab,Ac,Ad,slr])
noncomputable def Eg (n0:Int):(Int×Int)→Option ((Int×Int) ⊕ Int):=fun (x5,x1)=>
 if x1>(0:Int) then
 ask (InI (x5*n0)) <|
 ask (InI (x1-(1:Int))) <|
 some (.inl (x5*n0,x1-(1:Int)))
 else
 some (.inr x5)
def L3 (n0:Int):(Int×Int)→St:=fun s=>[(5,A.val (Af s.1)),(0,A.val (Af (n0))),(1,A.val (Af s.2))]
def Rz (_n0:Int):Int→Tgt
 | s=>((Ex.exit 0),[5],[(5,A.val (Af s))])
theorem Abp {n0:Int} (s:(Int×Int)) (o:(Int×Int) ⊕ Int) (h:Eg n0 s=some o):vc Tryd.prog Rk (Gg [5,0,1] (L3 n0) (Rz n0) o) (L3 n0 s):=by
 obtain ⟨x5,x1⟩:=s
 unfold Eg at h
 try dsimp only at h
 conv=>whnf
 refine Br.od h (fun p1 h=> ?_) (fun p1 h=> ?_)
 ·conv=>whnf
  refine Ask.o h fun p2 h=> ?_
  conv=>whnf
  refine Ask.o h fun p3 h=> ?_
  conv=>whnf
  cases h;exact ⟨rfl,rfl⟩
 conv=>whnf
 cases h;exact ⟨rfl,rfl⟩
noncomputable def Gj (n0:Int) (k0:Int):Option Int:=
 (A7 (Eg n0) ((1:Int),k0)).bind fun q4_5=>
 some q4_5
theorem Xn {n0:Int} {k0:Int} {v:Int} (h:Gj n0 k0=some v):Ret Tryd.prog M4 [Af n0,Af k0] (Af v):=by
 refine Bp Ahv (Nat.le_of_ble_eq_true rfl) ?_
 unfold Gj at h
 conv=>whnf
 refine LoopQ.o [5,0,1] (L3 n0) (Rz n0) h (fun s o h=>Abp s o h) (by first | rfl | simp [restrict,look,Aa,V.fz,fzL,V.up,upL,Ab,Ac,Ad,slr]) (fun _=>rfl) ?_
 rintro q4_5 h
 try dsimp only at h
 conv=>whnf
 cases h;exact (by first | rfl | simp only [Ah,Aa,V.fz,fzL,V.up,upL,Ab,Ac,Ad,slr] | simp [Ah,Aa,V.fz,fzL,V.up,upL,Ab,Ac,Ad,slr])
noncomputable def Dg (t0:List Int) (terms0:List (List Int)):(Int×(List Int))→Option ((Int×(List Int)) ⊕ (Unit ⊕ (List Int))):=fun (x7,x6)=>
 if x7<(↑t0.length:Int) then
 ask ((0:Int)≤x7∧x7<(↑t0.length:Int)) <|
 if nth t0 x7.toNat≥(↑terms0.length:Int) then
 some (.inr (.inl ()))
 else
 ask ((0:Int)≤x7∧x7<(↑t0.length:Int)) <|
 if nth t0 x7.toNat<(0:Int) then
 ask ((0:Int)≤x7∧x7<(↑t0.length:Int)) <|
 ask ((x6).length+([nth t0 x7.toNat]).length≤LIM) <|
 if (↑(x6++[nth t0 x7.toNat]).length:Int)>(60:Int) then
 some (.inr (.inl ()))
 else
 ask (InI (x7+(1:Int))) <|
 some (.inl (x7+(1:Int),x6++[nth t0 x7.toNat]))
 else
 ask ((0:Int)≤x7∧x7<(↑t0.length:Int)) <|
 ask ((0:Int)≤nth t0 x7.toNat∧nth t0 x7.toNat<(↑terms0.length:Int)) <|
 ask ((x6).length+(nth terms0 (nth t0 x7.toNat).toNat).length≤LIM) <|
 if (↑(x6++nth terms0 (nth t0 x7.toNat).toNat).length:Int)>(60:Int) then
 some (.inr (.inl ()))
 else
 ask (InI (x7+(1:Int))) <|
 some (.inl (x7+(1:Int),x6++nth terms0 (nth t0 x7.toNat).toNat))
 else
 some (.inr (.inr x6))
def Gw (t0:List Int) (terms0:List (List Int)):(Int×(List Int))→St:=fun s=>[(7,A.val (Af s.1)),(6,A.val ((slr true 1 Af) s.2)),(0,A.val ((slr false 1 Af) (t0))),(1,A.val ((slr false 1 (slr false 1 Af)) (terms0)))]
def Jn (_t0:List Int) (_terms0:List (List Int)):(Unit ⊕ (List Int))→Tgt
 | (.inl _s)=>(Ex.ret,[5,4],[(5,A.val (V.bool (false))),(4,A.val ((slr true 1 Af) (A4 Int)))])
 | (.inr s)=>((Ex.exit 0),[6],[(6,A.val ((slr true 1 Af) s))])
theorem Q6 {t0:List Int} {terms0:List (List Int)} (s:(Int×(List Int))) (o:(Int×(List Int)) ⊕ (Unit ⊕ (List Int))) (h:Dg t0 terms0 s=some o):vc Tryd.prog Jy (Gg [7,6,0,1] (Gw t0 terms0) (Jn t0 terms0) o) (Gw t0 terms0 s):=by
 obtain ⟨x7,x6⟩:=s
 unfold Dg at h
 try dsimp only at h
 conv=>whnf
 refine Len.map ?_
 conv=>whnf
 refine Br.od h (fun p1 h=> ?_) (fun p1 h=> ?_)
 ·conv=>whnf
  refine Len.map ?_
  conv=>whnf
  refine Ask.o h fun p2 h=> ?_
  conv=>whnf
  refine Elem.o (by first | omega | (simp [A8] at * <;> omega)) ?_
  conv=>whnf
  refine Len.map ?_
  conv=>whnf
  refine Br.od h (fun p3 h=> ?_) (fun p3 h=> ?_)
  ·conv=>whnf
   refine BslQ.o Af (A4 Int) (by exact fun _=>⟨rfl,rfl⟩) (by first | rfl | (simp only [Aa,V.fz,fzL,V.up,upL,Ab,Ac,Ad,slr,List.cons_append,List.nil_append];done) | simp [Aa,V.fz,fzL,V.up,upL,Ab,Ac,Ad,slr]) ?_
   conv=>whnf
   cases h;exact ⟨rfl,rfl⟩
  conv=>whnf
  refine Len.map ?_
  conv=>whnf
  refine Ask.o h fun p4 h=> ?_
  conv=>whnf
  refine Elem.o (by first | omega | (simp [A8] at * <;> omega)) ?_
  conv=>whnf
  refine Br.od h (fun p5 h=> ?_) (fun p5 h=> ?_)
  ·conv=>whnf
   refine Len.map ?_
   conv=>whnf
   refine Ask.o h fun p6 h=> ?_
   conv=>whnf
   refine Elem.o (by first | omega | (simp [A8] at * <;> omega)) ?_
   conv=>whnf
   refine BslQ.o Af ([nth t0 x7.toNat]) (by exact fun _=>⟨rfl,rfl⟩) (by first | rfl | (simp only [Aa,V.fz,fzL,V.up,upL,Ab,Ac,Ad,slr,List.cons_append,List.nil_append];done) | simp [Aa,V.fz,fzL,V.up,upL,Ab,Ac,Ad,slr]) ?_
   conv=>whnf
   refine NoOwn.o (fun _=>rfl) ?_
   conv=>whnf
   refine AppQ.o (m:=1) Af (by exact fun _=>⟨rfl,rfl⟩) (x6) ([nth t0 x7.toNat]) (by first | rfl | simp only [Aa,V.fz,fzL,V.up,upL,Ab,Ac,Ad,slr,List.cons_append,List.nil_append] | simp [Aa,V.fz,fzL,V.up,upL,Ab,Ac,Ad,slr]) (by first | rfl | simp only [Aa,V.fz,fzL,V.up,upL,Ab,Ac,Ad,slr,List.cons_append,List.nil_append] | simp [Aa,V.fz,fzL,V.up,upL,Ab,Ac,Ad,slr]) h fun h=> ?_
   conv=>whnf
   refine Len.map ?_
   conv=>whnf
   refine Br.od h (fun p7 h=> ?_) (fun p7 h=> ?_)
   ·conv=>whnf
    refine BslQ.o Af (A4 Int) (by exact fun _=>⟨rfl,rfl⟩) (by first | rfl | (simp only [Aa,V.fz,fzL,V.up,upL,Ab,Ac,Ad,slr,List.cons_append,List.nil_append];done) | simp [Aa,V.fz,fzL,V.up,upL,Ab,Ac,Ad,slr]) ?_
    conv=>whnf
    cases h;exact ⟨rfl,rfl⟩
   conv=>whnf
   refine Ask.o h fun p8 h=> ?_
   conv=>whnf
   cases h;exact ⟨rfl,rfl⟩
  conv=>whnf
  refine Len.map ?_
  conv=>whnf
  refine Ask.o h fun p9 h=> ?_
  conv=>whnf
  refine Elem.o (by first | omega | (simp [A8] at * <;> omega)) ?_
  conv=>whnf
  refine Len.map ?_
  conv=>whnf
  refine Ask.o h fun p10 h=> ?_
  conv=>whnf
  refine Elem.o (by first | omega | (simp [A8] at * <;> omega)) ?_
  conv=>whnf
  refine AppQ.o (m:=1) Af (by exact fun _=>⟨rfl,rfl⟩) (x6) (nth terms0 (nth t0 x7.toNat).toNat) (by first | rfl | simp only [Aa,V.fz,fzL,V.up,upL,Ab,Ac,Ad,slr,List.cons_append,List.nil_append] | simp [Aa,V.fz,fzL,V.up,upL,Ab,Ac,Ad,slr]) (by first | rfl | simp only [Aa,V.fz,fzL,V.up,upL,Ab,Ac,Ad,slr,List.cons_append,List.nil_append] | simp [Aa,V.fz,fzL,V.up,upL,Ab,Ac,Ad,slr]) h fun h=> ?_
  conv=>whnf
  refine Len.map ?_
  conv=>whnf
  refine Br.od h (fun p11 h=> ?_) (fun p11 h=> ?_)
  ·conv=>whnf
   refine BslQ.o Af (A4 Int) (by exact fun _=>⟨rfl,rfl⟩) (by first | rfl | (simp only [Aa,V.fz,fzL,V.up,upL,Ab,Ac,Ad,slr,List.cons_append,List.nil_append];done) | simp [Aa,V.fz,fzL,V.up,upL,Ab,Ac,Ad,slr]) ?_
   conv=>whnf
   cases h;exact ⟨rfl,rfl⟩
  conv=>whnf
  refine Ask.o h fun p12 h=> ?_
  conv=>whnf
  cases h;exact ⟨rfl,rfl⟩
 conv=>whnf
 cases h;exact ⟨rfl,rfl⟩
noncomputable def En (t0:(List Int)) (terms0:(List (List Int))):Option ((List Int)×Bool):=
 (A7 (Dg t0 terms0) ((0:Int),A4 Int)).bind fun t=>match t with
 | (.inl _)=>(some (A4 Int,false))
 | (.inr q13_6)=>(some (q13_6,true))
theorem U1 {t0:(List Int)} {terms0:(List (List Int))} {v:((List Int)×Bool)} (h:En t0 terms0=some v):Ret Tryd.prog H9 [(slr false 1 Af) t0,(slr false 1 (slr false 1 Af)) terms0] ((fun r=>V.tup [(slr true 1 Af) r.1,V.bool r.2]) v):=by
 refine Bp Vt (Nat.le_of_ble_eq_true rfl) ?_
 unfold En at h
 conv=>whnf
 refine BslQ.o Af (A4 Int) (by exact fun _=>⟨rfl,rfl⟩) (by first | rfl | (simp only [Aa,V.fz,fzL,V.up,upL,Ab,Ac,Ad,slr,List.cons_append,List.nil_append];done) | simp [Aa,V.fz,fzL,V.up,upL,Ab,Ac,Ad,slr]) ?_
 conv=>whnf
 refine LoopQ.o [7,6,0,1] (Gw t0 terms0) (Jn t0 terms0) h (fun s o h=>Q6 s o h) (by first | rfl | simp [restrict,look,Aa,V.fz,fzL,V.up,upL,Ab,Ac,Ad,slr]) (by rintro (_ | _)<;>rfl) ?_
 rintro (⟨⟩ | q13_6) h
 ·try dsimp only at h
  conv=>whnf
  cases h;exact (by first | rfl | simp only [Ah,Aa,V.fz,fzL,V.up,upL,Ab,Ac,Ad,slr] | simp [Ah,Aa,V.fz,fzL,V.up,upL,Ab,Ac,Ad,slr])
 try dsimp only at h
 conv=>whnf
 cases h;exact (by first | rfl | simp only [Ah,Aa,V.fz,fzL,V.up,upL,Ab,Ac,Ad,slr] | simp [Ah,Aa,V.fz,fzL,V.up,upL,Ab,Ac,Ad,slr])
end Go.Proofs.YtbnoclklhcbidaaDoor.Ax
