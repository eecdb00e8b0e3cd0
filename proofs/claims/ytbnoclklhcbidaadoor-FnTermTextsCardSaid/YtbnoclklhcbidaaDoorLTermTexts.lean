/-
 What the functions compute, as functions on plain data, and that the program does compute it; written by program.
-/
import Derived.Test.YtbnoclklhcbidaaDoorCode
import Derived.Test.YtbnoclklhcbidaaDoorG1
import Derived.Test.YtbnoclklhcbidaaDoorG2
import Derived.Test.YtbnoclklhcbidaaDoorG6
import Derived.Test.YtbnoclklhcbidaaDoorG8
import Derived.Test.YtbnoclklhcbidaaDoorG9
import Derived.Test.YtbnoclklhcbidaaDoorG11
namespace Go.Proofs.YtbnoclklhcbidaaDoor.Ax
open Go
set_option maxRecDepth 100000
set_option maxHeartbeats 4000000
noncomputable def Ci (_code0:List Int) (_r38:SAlgebra×List Int×List Int) (r39:List (List Int)×Bool):(Int×(List (List Int)))→Option ((Int×(List (List Int))) ⊕ (List (List Int))):=fun (x33,x32)=>
 if x33<(↑r39.fst.length:Int) then
 ask ((0:Int)≤x33∧x33<(↑r39.fst.length:Int)) <|
 if (↑(nth r39.fst x33.toNat).length:Int)=(0:Int) then
 ask ((x32).length+([[x33]]).length≤LIM) <|
 ask (InI (x33+(1:Int))) <|
 some (.inl (x33+(1:Int),x32++[[x33]]))
 else
 ask ((0:Int)≤x33∧x33<(↑r39.fst.length:Int)) <|
 ask ((x32).length+([nth r39.fst x33.toNat]).length≤LIM) <|
 ask (InI (x33+(1:Int))) <|
 some (.inl (x33+(1:Int),x32++[nth r39.fst x33.toNat]))
 else
 some (.inr x32)
def G4 (code0:List Int) (r38:SAlgebra×List Int×List Int) (r39:List (List Int)×Bool):(Int×(List (List Int)))→St:=fun s=>[(33,A.val (Af s.1)),(32,A.val ((slr true 1 (slr false 1 Af)) s.2)),(28,A.val ((slr false 1 (slr false 1 Af)) (r39.fst))),(27,A.val ((slr false 1 Af) (r38.snd.snd))),(26,A.val ((slr false 1 Af) (r38.snd.fst))),(25,A.val ((rP true (Ag false)) (r38.fst))),(0,A.val ((slr false 1 (V.int IntKind.u8)) (code0)))]
def Km (code0:List Int) (r38:SAlgebra×List Int×List Int) (_r39:List (List Int)×Bool):(List (List Int))→Tgt
 | s=>((Ex.exit 0),[32,27,26,25,0],[(32,A.val ((slr true 1 (slr false 1 Af)) s)),(27,A.val ((slr false 1 Af) (r38.snd.snd))),(26,A.val ((slr false 1 Af) (r38.snd.fst))),(25,A.val ((rP true (Ag false)) (r38.fst))),(0,A.val ((slr false 1 (V.int IntKind.u8)) (code0)))])
theorem R7 {code0:List Int} {r38:SAlgebra×List Int×List Int} {r39:List (List Int)×Bool} (s:(Int×(List (List Int)))) (o:(Int×(List (List Int))) ⊕ (List (List Int))) (h:Ci code0 r38 r39 s=some o):vc Tryd.prog Kk (Gg [33,32,28,27,26,25,0] (G4 code0 r38 r39) (Km code0 r38 r39) o) (G4 code0 r38 r39 s):=by
 obtain ⟨x33,x32⟩:=s
 unfold Ci at h
 try dsimp only at h
 conv=>whnf
 refine Len.map ?_
 conv=>whnf
 refine Br.od h (fun p46 h=> ?_) (fun p46 h=> ?_)
 ·conv=>whnf
  refine Len.map ?_
  conv=>whnf
  refine Ask.o h fun p47 h=> ?_
  conv=>whnf
  refine Elem.o (by first | omega | (simp [A8] at * <;> omega)) ?_
  conv=>whnf
  refine Len.map ?_
  conv=>whnf
  refine Br.oe h (fun p48 h=> ?_) (fun p48 h=> ?_)
  ·conv=>whnf
   refine BslQ.o Af [x33] (by exact fun _=>⟨rfl,rfl⟩) (by first | rfl | (simp only [Aa,V.fz,fzL,V.up,upL,Ab,Ac,Ad,slr,List.cons_append,List.nil_append];done) | simp [Aa,V.fz,fzL,V.up,upL,Ab,Ac,Ad,slr]) ?_
   conv=>whnf
   refine FrzQ.d (V.sl false (1:Nat) (List.map Af [x33])) (by first | (simp only [Ak,Ac];done) | (simp [Ak,V.fz,Ab,Ac,slr];done) | (simp [Ak,V.fz,fzL,Ab,slr];done)) ?_
   conv=>whnf
   refine BslQ.o (slr false 1 Af) [[x33]] (by exact fun _=>⟨rfl,rfl⟩) (by first | rfl | (simp only [Aa,V.fz,fzL,V.up,upL,Ab,Ac,Ad,slr,List.cons_append,List.nil_append];done) | simp [Aa,V.fz,fzL,V.up,upL,Ab,Ac,Ad,slr]) ?_
   conv=>whnf
   refine NoOwn.o (fun _=>rfl) ?_
   conv=>whnf
   refine AppQ.o (m:=1) (slr false 1 Af) (by exact fun _=>⟨rfl,rfl⟩) (x32) ([[x33]]) (by first | rfl | simp only [Aa,V.fz,fzL,V.up,upL,Ab,Ac,Ad,slr,List.cons_append,List.nil_append] | simp [Aa,V.fz,fzL,V.up,upL,Ab,Ac,Ad,slr]) (by first | rfl | simp only [Aa,V.fz,fzL,V.up,upL,Ab,Ac,Ad,slr,List.cons_append,List.nil_append] | simp [Aa,V.fz,fzL,V.up,upL,Ab,Ac,Ad,slr]) h fun h=> ?_
   conv=>whnf
   refine Ask.o h fun p49 h=> ?_
   conv=>whnf
   cases h;exact ⟨rfl,rfl⟩
  conv=>whnf
  refine Len.map ?_
  conv=>whnf
  refine Ask.o h fun p50 h=> ?_
  conv=>whnf
  refine Elem.o (by first | omega | (simp [A8] at * <;> omega)) ?_
  conv=>whnf
  refine BslQ.o (slr false 1 Af) ([nth r39.fst x33.toNat]) (by exact fun _=>⟨rfl,rfl⟩) (by first | rfl | (simp only [Aa,V.fz,fzL,V.up,upL,Ab,Ac,Ad,slr,List.cons_append,List.nil_append];done) | simp [Aa,V.fz,fzL,V.up,upL,Ab,Ac,Ad,slr]) ?_
  conv=>whnf
  refine NoOwn.o (fun _=>rfl) ?_
  conv=>whnf
  refine AppQ.o (m:=1) (slr false 1 Af) (by exact fun _=>⟨rfl,rfl⟩) (x32) ([nth r39.fst x33.toNat]) (by first | rfl | simp only [Aa,V.fz,fzL,V.up,upL,Ab,Ac,Ad,slr,List.cons_append,List.nil_append] | simp [Aa,V.fz,fzL,V.up,upL,Ab,Ac,Ad,slr]) (by first | rfl | simp only [Aa,V.fz,fzL,V.up,upL,Ab,Ac,Ad,slr,List.cons_append,List.nil_append] | simp [Aa,V.fz,fzL,V.up,upL,Ab,Ac,Ad,slr]) h fun h=> ?_
  conv=>whnf
  refine Ask.o h fun p51 h=> ?_
  conv=>whnf
  cases h;exact ⟨rfl,rfl⟩
 conv=>whnf
 cases h;exact ⟨rfl,rfl⟩
noncomputable def Gs (code0:(List Int)):Option Bool:=
 (Oz (code0)).bind fun r1=>
 if (r1)=true then
 some true
 else
 (Ep (code0)).bind fun r3=>
 (Fk (r3.fst) (r3.snd)).bind fun r4=>
 (((Gz (r3.fst) (r3.snd)).bind fun r5=>
 if (r4.fst.toList==r5.fst.toList)=true then
 if (r4.snd==r5.snd)=true then
 some (.inl ())
 else
 some (.inr ())
 else
 some (.inr ()):Option (Unit ⊕ Unit))).bind fun t=>match t with
 | (.inl _)=>((Ee (r3.fst) (r3.snd)).bind fun r9=>
 (((Fm (r3.fst) (r3.snd)).bind fun r10=>
 if (r9.snd==r10.snd)=true then
 if (r9.snd==r4.snd)=true then
 (D7 (r9.fst) (r10.fst)).bind fun r13=>
 if (r13)=true then
 some (.inl ())
 else
 some (.inr ())
 else
 some (.inr ())
 else
 some (.inr ()):Option (Unit ⊕ Unit))).bind fun t=>match t with
 | (.inl _)=>(((if (r4.snd)=true then
 (E4 (r3.fst) (r4.fst)).bind fun r17=>
 (Ee (r3.fst) (r9.fst)).bind fun r18=>
 if (r17.snd)=true then
 (D7 (r17.fst) (r3.snd)).bind fun r20=>
 if (r20)=true then
 if (r18.snd)=true then
 (D7 (r18.fst) (r9.fst)).bind fun r23=>
 if (r23)=true then
 some (.inl ())
 else
 some (.inr ())
 else
 some (.inr ())
 else
 some (.inr ())
 else
 some (.inr ())
 else
 some (.inl ()):Option (Unit ⊕ Unit))).bind fun t=>match t with
 | (.inl _)=>((Ea (code0)).bind fun r26=>
 (E4 (r26.fst) (r26.snd)).bind fun r27=>
 (((F4 (r26.fst) (r26.snd)).bind fun r28=>
 if (r27.snd==r28.snd)=true then
 (D7 (r27.fst) (r28.fst)).bind fun r30=>
 if (r30)=true then
 some (.inl ())
 else
 some (.inr ())
 else
 some (.inr ()):Option (Unit ⊕ Unit))).bind fun t=>match t with
 | (.inl _)=>(((if (r27.snd)=true then
 (Fk (r26.fst) (r27.fst)).bind fun r34=>
 if (r34.snd)=true then
 if (r34.fst.toList==r26.snd.toList)=true then
 some (.inl ())
 else
 some (.inr ())
 else
 some (.inr ())
 else
 some (.inl ()):Option (Unit ⊕ Unit))).bind fun t=>match t with
 | (.inl _)=>((Eb (code0)).bind fun r38=>
 (F5 (r38.fst) (r38.snd.fst) (r38.snd.snd)).bind fun r39=>
 (((Gf (r38.fst) (r38.snd.fst) (r38.snd.snd)).bind fun r40=>
 if (r39.snd==r40.snd)=true then
 (It (r39.fst) (r40.fst)).bind fun r42=>
 if (r42)=true then
 some (.inl ())
 else
 some (.inr ())
 else
 some (.inr ()):Option (Unit ⊕ Unit))).bind fun t=>match t with
 | (.inl _)=>(((if (r39.snd)=true then
 (A7 (Ci code0 r38 r39) ((0:Int),A4 (List Int))).bind fun q52_32=>
 (Ek (r38.fst) (r38.snd.fst) (q52_32)).bind fun r53=>
 if (r53.snd)=true then
 (D7 (r53.fst) (r38.snd.snd)).bind fun r55=>
 if (r55)=true then
 some (.inl ())
 else
 some (.inr ())
 else
 some (.inr ())
 else
 some (.inl ()):Option (Unit ⊕ Unit))).bind fun t=>match t with
 | (.inl _)=>((C9 (code0)).bind fun r58=>
 (Cy (r58.fst) (r58.snd.fst) (r58.snd.snd)).bind fun r59=>
 (((Dr (r58.fst) (r58.snd.fst) (r58.snd.snd)).bind fun r60=>
 if r59.fst≠r60.fst then
 some (.inl ())
 else
 if (r59.snd==r60.snd)=true then
 some (.inr ())
 else
 some (.inl ()):Option (Unit ⊕ Unit))).bind fun t=>match t with
 | (.inl _)=>(some false)
 | (.inr _)=>((Cy (r58.fst) (r58.snd.snd) (r58.snd.fst)).bind fun r64=>
 if (r64.snd==r59.snd)=true then
 some (r64.fst==IntKind.i64.wrap ((0:Int)-r59.fst))
 else
 some false))
 | (.inr _)=>(some false))
 | (.inr _)=>(some false))
 | (.inr _)=>(some false))
 | (.inr _)=>(some false))
 | (.inr _)=>(some false))
 | (.inr _)=>(some false))
 | (.inr _)=>(some false)
theorem Wj {code0:(List Int)} {v:Bool} (h:Gs code0=some v):Ret Tryd.prog Nx [(slr false 1 (V.int IntKind.u8)) code0] (V.bool v):=by
 refine Bp Ww (Nat.le_of_ble_eq_true rfl) ?_
 unfold Gs at h
 conv=>whnf
 refine CallQ.o V.bool (by first | rfl | simp only [Aa,V.fz,fzL,V.up,upL,Ab,Ac,Ad,slr,List.cons_append,List.nil_append] | simp [Aa,V.fz,fzL,V.up,upL,Ab,Ac,Ad,slr]) h (fun r h=>Akz h) (fun r1 h=> ?_)
 conv=>whnf
 refine Br.ob h (fun p2 h=> ?_) (fun p2 h=> ?_)
 ·conv=>whnf
  cases h;exact (by first | rfl | simp only [Ah,Aa,V.fz,fzL,V.up,upL,Ab,Ac,Ad,slr] | simp [Ah,Aa,V.fz,fzL,V.up,upL,Ab,Ac,Ad,slr])
 conv=>whnf
 refine CallQ.o (fun r=>V.tup [(Ag false) r.1,(slr false 1 Af) r.2]) (by first | rfl | simp only [Aa,V.fz,fzL,V.up,upL,Ab,Ac,Ad,slr,List.cons_append,List.nil_append] | simp [Aa,V.fz,fzL,V.up,upL,Ab,Ac,Ad,slr]) h (fun r h=>Uh h) (fun r3 h=> ?_)
 conv=>whnf
 refine SetKids.lit rfl ?_
 conv=>whnf
 refine Cells.lit rfl rfl ?_
 conv=>whnf
 refine CallQ.o (fun r=>V.tup [V.str r.1,V.bool r.2]) (by first | rfl | simp only [Aa,V.fz,fzL,V.up,upL,Ab,Ac,Ad,slr,List.cons_append,List.nil_append] | simp [Aa,V.fz,fzL,V.up,upL,Ab,Ac,Ad,slr]) h (fun r h=>Rr h) (fun r4 h=> ?_)
 conv=>whnf
 refine CutQ.o (fun t:(Unit ⊕ Unit)=>match t with | (.inl s)=>(Ex.normal,[6,5,4,3,0],[(6,A.val (V.bool (r4.snd))),(5,A.val (V.str (r4.fst))),(4,A.val ((slr false 1 Af) (r3.snd))),(3,A.val ((rP true (Ag false)) (r3.fst))),(0,A.val ((slr false 1 (V.int IntKind.u8)) (code0)))]) | (.inr s)=>(Ex.ret,[2],[(2,A.val (V.bool (false)))])) h ?_ ?_
 ·intro t h
  conv=>whnf
  refine Cells.lit rfl rfl ?_
  conv=>whnf
  refine CallQ.o (fun r=>V.tup [V.str r.1,V.bool r.2]) (by first | rfl | simp only [Aa,V.fz,fzL,V.up,upL,Ab,Ac,Ad,slr,List.cons_append,List.nil_append] | simp [Aa,V.fz,fzL,V.up,upL,Ab,Ac,Ad,slr]) h (fun r h=>Ab8 h) (fun r5 h=> ?_)
  conv=>whnf
  refine Br.flip ?_
  conv=>whnf
  refine Br.ob h (fun p6 h=> ?_) (fun p6 h=> ?_)
  ·conv=>whnf
   refine Br.no ?_
   conv=>whnf
   refine Br.no ?_
   conv=>whnf
   refine Br.no ?_
   conv=>whnf
   refine Br.flip ?_
   conv=>whnf
   refine Br.ob h (fun p7 h=> ?_) (fun p7 h=> ?_)
   ·conv=>whnf
    cases h;exact ⟨rfl,rfl⟩
   conv=>whnf
   cases h;exact ⟨rfl,rfl⟩
  conv=>whnf
  refine Br.yes ?_
  conv=>whnf
  refine Br.yes ?_
  conv=>whnf
  refine Br.yes ?_
  conv=>whnf
  refine Br.yes ?_
  conv=>whnf
  cases h;exact ⟨rfl,rfl⟩
 rintro (⟨⟩ | ⟨⟩) h
 ·try dsimp only at h
  conv=>whnf
  refine Cells.lit rfl rfl ?_
  conv=>whnf
  refine CallQ.o (fun r=>V.tup [(slr true 1 Af) r.1,V.bool r.2]) (by first | rfl | simp only [Aa,V.fz,fzL,V.up,upL,Ab,Ac,Ad,slr,List.cons_append,List.nil_append] | simp [Aa,V.fz,fzL,V.up,upL,Ab,Ac,Ad,slr]) h (fun r h=>Oe h) (fun r9 h=> ?_)
  conv=>whnf
  refine CutQ.o (fun t:(Unit ⊕ Unit)=>match t with | (.inl s)=>(Ex.normal,[9,6,5,4,3,0],[(9,A.val ((slr true 1 Af) (r9.fst))),(6,A.val (V.bool (r4.snd))),(5,A.val (V.str (r4.fst))),(4,A.val ((slr false 1 Af) (r3.snd))),(3,A.val ((rP true (Ag false)) (r3.fst))),(0,A.val ((slr false 1 (V.int IntKind.u8)) (code0)))]) | (.inr s)=>(Ex.ret,[2],[(2,A.val (V.bool (false)))])) h ?_ ?_
  ·intro t h
   conv=>whnf
   refine Cells.lit rfl rfl ?_
   conv=>whnf
   refine CallQ.o (fun r=>V.tup [(slr true 1 Af) r.1,V.bool r.2]) (by first | rfl | simp only [Aa,V.fz,fzL,V.up,upL,Ab,Ac,Ad,slr,List.cons_append,List.nil_append] | simp [Aa,V.fz,fzL,V.up,upL,Ab,Ac,Ad,slr]) h (fun r h=>Yn h) (fun r10 h=> ?_)
   conv=>whnf
   refine Br.flip ?_
   conv=>whnf
   refine Br.ob h (fun p11 h=> ?_) (fun p11 h=> ?_)
   ·conv=>whnf
    refine Br.no ?_
    conv=>whnf
    refine Br.no ?_
    conv=>whnf
    refine Br.no ?_
    conv=>whnf
    refine Br.flip ?_
    conv=>whnf
    refine Br.ob h (fun p12 h=> ?_) (fun p12 h=> ?_)
    ·conv=>whnf
     refine Br.no ?_
     conv=>whnf
     refine Br.no ?_
     conv=>whnf
     refine CallQ.rd V.bool (by first | rfl | simp only [V.fz,Ab,slr] | simp [Aa,V.fz,fzL,V.up,upL,Ab,Ac,Ad,slr]) (fun _=>rfl) h (fun r h=>H5 h) (fun r13 h=> ?_)
     conv=>whnf
     refine Br.no ?_
     conv=>whnf
     refine Br.no ?_
     conv=>whnf
     refine Br.flip ?_
     conv=>whnf
     refine Br.ob h (fun p14 h=> ?_) (fun p14 h=> ?_)
     ·conv=>whnf
      cases h;exact ⟨rfl,rfl⟩
     conv=>whnf
     cases h;exact ⟨rfl,rfl⟩
    conv=>whnf
    refine Br.yes ?_
    conv=>whnf
    refine Br.yes ?_
    conv=>whnf
    refine Br.yes ?_
    conv=>whnf
    refine Br.yes ?_
    conv=>whnf
    refine Br.yes ?_
    conv=>whnf
    cases h;exact ⟨rfl,rfl⟩
   conv=>whnf
   refine Br.yes ?_
   conv=>whnf
   refine Br.yes ?_
   conv=>whnf
   refine Br.yes ?_
   conv=>whnf
   refine Br.yes ?_
   conv=>whnf
   refine Br.yes ?_
   conv=>whnf
   refine Br.yes ?_
   conv=>whnf
   refine Br.yes ?_
   conv=>whnf
   refine Br.yes ?_
   conv=>whnf
   refine Br.yes ?_
   conv=>whnf
   cases h;exact ⟨rfl,rfl⟩
  rintro (⟨⟩ | ⟨⟩) h
  ·try dsimp only at h
   conv=>whnf
   refine CutQ.o (fun t:(Unit ⊕ Unit)=>match t with | (.inl s)=>(Ex.normal,[0],[(0,A.val ((slr false 1 (V.int IntKind.u8)) (code0)))]) | (.inr s)=>(Ex.ret,[2],[(2,A.val (V.bool (false)))])) h ?_ ?_
   ·intro t h
    conv=>whnf
    refine Br.ob h (fun p16 h=> ?_) (fun p16 h=> ?_)
    ·conv=>whnf
     refine Cells.lit rfl rfl ?_
     conv=>whnf
     refine CallQ.o (fun r=>V.tup [(slr true 1 Af) r.1,V.bool r.2]) (by first | rfl | simp only [Aa,V.fz,fzL,V.up,upL,Ab,Ac,Ad,slr,List.cons_append,List.nil_append] | simp [Aa,V.fz,fzL,V.up,upL,Ab,Ac,Ad,slr]) h (fun r h=>Qn h) (fun r17 h=> ?_)
     conv=>whnf
     refine Cells.lit rfl rfl ?_
     conv=>whnf
     refine CallQ.rd (fun r=>V.tup [(slr true 1 Af) r.1,V.bool r.2]) (by first | rfl | simp only [V.fz,fzL,Ab,slr] | simp [Aa,V.fz,fzL,V.up,upL,Ab,Ac,Ad,slr]) (fun _=>by simp [V.noFz,Ct,E5]) h (fun r h=>Oe h) (fun r18 h=> ?_)
     conv=>whnf
     refine Br.flip ?_
     conv=>whnf
     refine Br.ob h (fun p19 h=> ?_) (fun p19 h=> ?_)
     ·conv=>whnf
      refine Br.no ?_
      conv=>whnf
      refine Br.no ?_
      conv=>whnf
      refine CallQ.rd V.bool (by first | rfl | simp only [V.fz,V.up,Ab,slr] | simp [Aa,V.fz,fzL,V.up,upL,Ab,Ac,Ad,slr]) (fun _=>rfl) h (fun r h=>H5 h) (fun r20 h=> ?_)
      conv=>whnf
      refine Br.no ?_
      conv=>whnf
      refine Br.no ?_
      conv=>whnf
      refine Br.flip ?_
      conv=>whnf
      refine Br.ob h (fun p21 h=> ?_) (fun p21 h=> ?_)
      ·conv=>whnf
       refine Br.no ?_
       conv=>whnf
       refine Br.no ?_
       conv=>whnf
       refine Br.flip ?_
       conv=>whnf
       refine Br.ob h (fun p22 h=> ?_) (fun p22 h=> ?_)
       ·conv=>whnf
        refine Br.no ?_
        conv=>whnf
        refine Br.no ?_
        conv=>whnf
        refine CallQ.rd V.bool (by first | rfl | simp only [V.fz,Ab,slr] | simp [Aa,V.fz,fzL,V.up,upL,Ab,Ac,Ad,slr]) (fun _=>rfl) h (fun r h=>H5 h) (fun r23 h=> ?_)
        conv=>whnf
        refine Br.no ?_
        conv=>whnf
        refine Br.no ?_
        conv=>whnf
        refine Br.flip ?_
        conv=>whnf
        refine Br.ob h (fun p24 h=> ?_) (fun p24 h=> ?_)
        ·conv=>whnf
         cases h;exact ⟨rfl,rfl⟩
        conv=>whnf
        cases h;exact ⟨rfl,rfl⟩
       conv=>whnf
       refine Br.yes ?_
       conv=>whnf
       refine Br.yes ?_
       conv=>whnf
       refine Br.yes ?_
       conv=>whnf
       refine Br.yes ?_
       conv=>whnf
       refine Br.yes ?_
       conv=>whnf
       cases h;exact ⟨rfl,rfl⟩
      conv=>whnf
      refine Br.yes ?_
      conv=>whnf
      refine Br.yes ?_
      conv=>whnf
      refine Br.yes ?_
      conv=>whnf
      refine Br.yes ?_
      conv=>whnf
      refine Br.yes ?_
      conv=>whnf
      refine Br.yes ?_
      conv=>whnf
      refine Br.yes ?_
      conv=>whnf
      refine Br.yes ?_
      conv=>whnf
      cases h;exact ⟨rfl,rfl⟩
     conv=>whnf
     refine Br.yes ?_
     conv=>whnf
     refine Br.yes ?_
     conv=>whnf
     refine Br.yes ?_
     conv=>whnf
     refine Br.yes ?_
     conv=>whnf
     refine Br.yes ?_
     conv=>whnf
     refine Br.yes ?_
     conv=>whnf
     refine Br.yes ?_
     conv=>whnf
     refine Br.yes ?_
     conv=>whnf
     refine Br.yes ?_
     conv=>whnf
     refine Br.yes ?_
     conv=>whnf
     refine Br.yes ?_
     conv=>whnf
     refine Br.yes ?_
     conv=>whnf
     refine Br.yes ?_
     conv=>whnf
     cases h;exact ⟨rfl,rfl⟩
    conv=>whnf
    cases h;exact ⟨rfl,rfl⟩
   rintro (⟨⟩ | ⟨⟩) h
   ·try dsimp only at h
    conv=>whnf
    refine CallQ.o (fun r=>V.tup [(Ag false) r.1,V.str r.2]) (by first | rfl | simp only [Aa,V.fz,fzL,V.up,upL,Ab,Ac,Ad,slr,List.cons_append,List.nil_append] | simp [Aa,V.fz,fzL,V.up,upL,Ab,Ac,Ad,slr]) h (fun r h=>Sm h) (fun r26 h=> ?_)
    conv=>whnf
    refine SetKids.lit rfl ?_
    conv=>whnf
    refine Cells.lit rfl rfl ?_
    conv=>whnf
    refine CallQ.o (fun r=>V.tup [(slr true 1 Af) r.1,V.bool r.2]) (by first | rfl | simp only [Aa,V.fz,fzL,V.up,upL,Ab,Ac,Ad,slr,List.cons_append,List.nil_append] | simp [Aa,V.fz,fzL,V.up,upL,Ab,Ac,Ad,slr]) h (fun r h=>Qn h) (fun r27 h=> ?_)
    conv=>whnf
    refine CutQ.o (fun t:(Unit ⊕ Unit)=>match t with | (.inl s)=>(Ex.normal,[20,19,18,17,0],[(20,A.val (V.bool (r27.snd))),(19,A.val ((slr true 1 Af) (r27.fst))),(18,A.val (V.str (r26.snd))),(17,A.val ((rP true (Ag false)) (r26.fst))),(0,A.val ((slr false 1 (V.int IntKind.u8)) (code0)))]) | (.inr s)=>(Ex.ret,[2],[(2,A.val (V.bool (false)))])) h ?_ ?_
    ·intro t h
     conv=>whnf
     refine Cells.lit rfl rfl ?_
     conv=>whnf
     refine CallQ.o (fun r=>V.tup [(slr true 1 Af) r.1,V.bool r.2]) (by first | rfl | simp only [Aa,V.fz,fzL,V.up,upL,Ab,Ac,Ad,slr,List.cons_append,List.nil_append] | simp [Aa,V.fz,fzL,V.up,upL,Ab,Ac,Ad,slr]) h (fun r h=>Zr h) (fun r28 h=> ?_)
     conv=>whnf
     refine Br.flip ?_
     conv=>whnf
     refine Br.ob h (fun p29 h=> ?_) (fun p29 h=> ?_)
     ·conv=>whnf
      refine Br.no ?_
      conv=>whnf
      refine Br.no ?_
      conv=>whnf
      refine CallQ.rd V.bool (by first | rfl | simp only [V.fz,Ab,slr] | simp [Aa,V.fz,fzL,V.up,upL,Ab,Ac,Ad,slr]) (fun _=>rfl) h (fun r h=>H5 h) (fun r30 h=> ?_)
      conv=>whnf
      refine Br.no ?_
      conv=>whnf
      refine Br.no ?_
      conv=>whnf
      refine Br.flip ?_
      conv=>whnf
      refine Br.ob h (fun p31 h=> ?_) (fun p31 h=> ?_)
      ·conv=>whnf
       cases h;exact ⟨rfl,rfl⟩
      conv=>whnf
      cases h;exact ⟨rfl,rfl⟩
     conv=>whnf
     refine Br.yes ?_
     conv=>whnf
     refine Br.yes ?_
     conv=>whnf
     refine Br.yes ?_
     conv=>whnf
     refine Br.yes ?_
     conv=>whnf
     refine Br.yes ?_
     conv=>whnf
     cases h;exact ⟨rfl,rfl⟩
    rintro (⟨⟩ | ⟨⟩) h
    ·try dsimp only at h
     conv=>whnf
     refine CutQ.o (fun t:(Unit ⊕ Unit)=>match t with | (.inl s)=>(Ex.normal,[0],[(0,A.val ((slr false 1 (V.int IntKind.u8)) (code0)))]) | (.inr s)=>(Ex.ret,[2],[(2,A.val (V.bool (false)))])) h ?_ ?_
     ·intro t h
      conv=>whnf
      refine Br.ob h (fun p33 h=> ?_) (fun p33 h=> ?_)
      ·conv=>whnf
       refine Cells.lit rfl rfl ?_
       conv=>whnf
       refine CallQ.rd (fun r=>V.tup [V.str r.1,V.bool r.2]) (by first | rfl | simp only [V.fz,fzL,Ab,slr] | simp [Aa,V.fz,fzL,V.up,upL,Ab,Ac,Ad,slr]) (fun _=>by simp [V.noFz,Ct]) h (fun r h=>Rr h) (fun r34 h=> ?_)
       conv=>whnf
       refine Br.flip ?_
       conv=>whnf
       refine Br.ob h (fun p35 h=> ?_) (fun p35 h=> ?_)
       ·conv=>whnf
        refine Br.no ?_
        conv=>whnf
        refine Br.no ?_
        conv=>whnf
        refine Br.no ?_
        conv=>whnf
        refine Br.flip ?_
        conv=>whnf
        refine Br.ob h (fun p36 h=> ?_) (fun p36 h=> ?_)
        ·conv=>whnf
         cases h;exact ⟨rfl,rfl⟩
        conv=>whnf
        cases h;exact ⟨rfl,rfl⟩
       conv=>whnf
       refine Br.yes ?_
       conv=>whnf
       refine Br.yes ?_
       conv=>whnf
       refine Br.yes ?_
       conv=>whnf
       refine Br.yes ?_
       conv=>whnf
       cases h;exact ⟨rfl,rfl⟩
      conv=>whnf
      cases h;exact ⟨rfl,rfl⟩
     rintro (⟨⟩ | ⟨⟩) h
     ·try dsimp only at h
      conv=>whnf
      refine CallQ.o (fun r=>V.tup [(Ag false) r.1,(slr false 1 Af) r.2.1,(slr false 1 Af) r.2.2]) (by first | rfl | simp only [Aa,V.fz,fzL,V.up,upL,Ab,Ac,Ad,slr,List.cons_append,List.nil_append] | simp [Aa,V.fz,fzL,V.up,upL,Ab,Ac,Ad,slr]) h (fun r h=>Sd h) (fun r38 h=> ?_)
      conv=>whnf
      refine SetKids.lit rfl ?_
      conv=>whnf
      refine Cells.lit rfl rfl ?_
      conv=>whnf
      refine CallQ.o (fun r=>V.tup [(slr false 1 (slr false 1 Af)) r.1,V.bool r.2]) (by first | rfl | simp only [Aa,V.fz,fzL,V.up,upL,Ab,Ac,Ad,slr,List.cons_append,List.nil_append] | simp [Aa,V.fz,fzL,V.up,upL,Ab,Ac,Ad,slr]) h (fun r h=>Y7 h) (fun r39 h=> ?_)
      conv=>whnf
      refine CutQ.o (fun t:(Unit ⊕ Unit)=>match t with | (.inl s)=>(Ex.normal,[29,28,27,26,25,0],[(29,A.val (V.bool (r39.snd))),(28,A.val ((slr false 1 (slr false 1 Af)) (r39.fst))),(27,A.val ((slr false 1 Af) (r38.snd.snd))),(26,A.val ((slr false 1 Af) (r38.snd.fst))),(25,A.val ((rP true (Ag false)) (r38.fst))),(0,A.val ((slr false 1 (V.int IntKind.u8)) (code0)))]) | (.inr s)=>(Ex.ret,[2],[(2,A.val (V.bool (false)))])) h ?_ ?_
      ·intro t h
       conv=>whnf
       refine Cells.lit rfl rfl ?_
       conv=>whnf
       refine CallQ.o (fun r=>V.tup [(slr false 1 (slr false 1 Af)) r.1,V.bool r.2]) (by first | rfl | simp only [Aa,V.fz,fzL,V.up,upL,Ab,Ac,Ad,slr,List.cons_append,List.nil_append] | simp [Aa,V.fz,fzL,V.up,upL,Ab,Ac,Ad,slr]) h (fun r h=>Zo h) (fun r40 h=> ?_)
       conv=>whnf
       refine Br.flip ?_
       conv=>whnf
       refine Br.ob h (fun p41 h=> ?_) (fun p41 h=> ?_)
       ·conv=>whnf
        refine Br.no ?_
        conv=>whnf
        refine Br.no ?_
        conv=>whnf
        refine CallQ.o V.bool (by first | rfl | simp only [Aa,V.fz,fzL,V.up,upL,Ab,Ac,Ad,slr,List.cons_append,List.nil_append] | simp [Aa,V.fz,fzL,V.up,upL,Ab,Ac,Ad,slr]) h (fun r h=>Afw h) (fun r42 h=> ?_)
        conv=>whnf
        refine Br.no ?_
        conv=>whnf
        refine Br.no ?_
        conv=>whnf
        refine Br.flip ?_
        conv=>whnf
        refine Br.ob h (fun p43 h=> ?_) (fun p43 h=> ?_)
        ·conv=>whnf
         cases h;exact ⟨rfl,rfl⟩
        conv=>whnf
        cases h;exact ⟨rfl,rfl⟩
       conv=>whnf
       refine Br.yes ?_
       conv=>whnf
       refine Br.yes ?_
       conv=>whnf
       refine Br.yes ?_
       conv=>whnf
       refine Br.yes ?_
       conv=>whnf
       refine Br.yes ?_
       conv=>whnf
       cases h;exact ⟨rfl,rfl⟩
      rintro (⟨⟩ | ⟨⟩) h
      ·try dsimp only at h
       conv=>whnf
       refine CutQ.o (fun t:(Unit ⊕ Unit)=>match t with | (.inl s)=>(Ex.normal,[0],[(0,A.val ((slr false 1 (V.int IntKind.u8)) (code0)))]) | (.inr s)=>(Ex.ret,[2],[(2,A.val (V.bool (false)))])) h ?_ ?_
       ·intro t h
        conv=>whnf
        refine Br.ob h (fun p45 h=> ?_) (fun p45 h=> ?_)
        ·conv=>whnf
         refine BslQ.o (slr true 1 Af) (A4 (List Int)) (by exact fun _=>⟨rfl,rfl⟩) (by first | rfl | (simp only [Aa,V.fz,fzL,V.up,upL,Ab,Ac,Ad,slr,List.cons_append,List.nil_append];done) | simp [Aa,V.fz,fzL,V.up,upL,Ab,Ac,Ad,slr]) ?_
         conv=>whnf
         refine LoopQ.o [33,32,28,27,26,25,0] (G4 code0 r38 r39) (Km code0 r38 r39) h (fun s o h=>R7 s o h) (by first | rfl | simp [restrict,look,Aa,V.fz,fzL,V.up,upL,Ab,Ac,Ad,slr]) (fun _=>rfl) ?_
         rintro q52_32 h
         try dsimp only at h
         conv=>whnf
         refine Cells.lit rfl rfl ?_
         conv=>whnf
         refine CallQ.rd (fun r=>V.tup [(slr true 1 Af) r.1,V.bool r.2]) (by first | rfl | simp only [V.fz,fzL,V.up,Ab,slr] | simp [Aa,V.fz,fzL,V.up,upL,Ab,Ac,Ad,slr]) (fun _=>by simp [V.noFz,Ct,E5]) h (fun r h=>Uw h) (fun r53 h=> ?_)
         conv=>whnf
         refine Br.flip ?_
         conv=>whnf
         refine Br.ob h (fun p54 h=> ?_) (fun p54 h=> ?_)
         ·conv=>whnf
          refine Br.no ?_
          conv=>whnf
          refine Br.no ?_
          conv=>whnf
          refine CallQ.rd V.bool (by first | rfl | simp only [V.fz,V.up,Ab,slr] | simp [Aa,V.fz,fzL,V.up,upL,Ab,Ac,Ad,slr]) (fun _=>rfl) h (fun r h=>H5 h) (fun r55 h=> ?_)
          conv=>whnf
          refine Br.no ?_
          conv=>whnf
          refine Br.no ?_
          conv=>whnf
          refine Br.flip ?_
          conv=>whnf
          refine Br.ob h (fun p56 h=> ?_) (fun p56 h=> ?_)
          ·conv=>whnf
           cases h;exact ⟨rfl,rfl⟩
          conv=>whnf
          cases h;exact ⟨rfl,rfl⟩
         conv=>whnf
         refine Br.yes ?_
         conv=>whnf
         refine Br.yes ?_
         conv=>whnf
         refine Br.yes ?_
         conv=>whnf
         refine Br.yes ?_
         conv=>whnf
         refine Br.yes ?_
         conv=>whnf
         cases h;exact ⟨rfl,rfl⟩
        conv=>whnf
        cases h;exact ⟨rfl,rfl⟩
       rintro (⟨⟩ | ⟨⟩) h
       ·try dsimp only at h
        conv=>whnf
        refine CallQ.o (fun r=>V.tup [(Ag false) r.1,(slr false 1 Af) r.2.1,(slr false 1 Af) r.2.2]) (by first | rfl | simp only [Aa,V.fz,fzL,V.up,upL,Ab,Ac,Ad,slr,List.cons_append,List.nil_append] | simp [Aa,V.fz,fzL,V.up,upL,Ab,Ac,Ad,slr]) h (fun r h=>Qd h) (fun r58 h=> ?_)
        conv=>whnf
        refine SetKids.lit rfl ?_
        conv=>whnf
        refine Cells.lit rfl rfl ?_
        conv=>whnf
        refine CallQ.o (fun r=>V.tup [Af r.1,V.bool r.2]) (by first | rfl | simp only [Aa,V.fz,fzL,V.up,upL,Ab,Ac,Ad,slr,List.cons_append,List.nil_append] | simp [Aa,V.fz,fzL,V.up,upL,Ab,Ac,Ad,slr]) h (fun r h=>Ms h) (fun r59 h=> ?_)
        conv=>whnf
        refine CutQ.o (fun t:(Unit ⊕ Unit)=>match t with | (.inl s)=>(Ex.ret,[2],[(2,A.val (V.bool (false)))]) | (.inr s)=>(Ex.normal,[40,39,38,37,36],[(40,A.val (V.bool (r59.snd))),(39,A.val (Af (r59.fst))),(38,A.val ((slr false 1 Af) (r58.snd.snd))),(37,A.val ((slr false 1 Af) (r58.snd.fst))),(36,A.val ((rP true (Ag false)) (r58.fst)))])) h ?_ ?_
        ·intro t h
         conv=>whnf
         refine Cells.lit rfl rfl ?_
         conv=>whnf
         refine CallQ.o (fun r=>V.tup [Af r.1,V.bool r.2]) (by first | rfl | simp only [Aa,V.fz,fzL,V.up,upL,Ab,Ac,Ad,slr,List.cons_append,List.nil_append] | simp [Aa,V.fz,fzL,V.up,upL,Ab,Ac,Ad,slr]) h (fun r h=>U5 h) (fun r60 h=> ?_)
         conv=>whnf
         refine Br.on h (fun p61 h=> ?_) (fun p61 h=> ?_)
         ·conv=>whnf
          refine Br.yes ?_
          conv=>whnf
          refine Br.yes ?_
          conv=>whnf
          refine Br.yes ?_
          conv=>whnf
          refine Br.yes ?_
          conv=>whnf
          cases h;exact ⟨rfl,rfl⟩
         conv=>whnf
         refine Br.no ?_
         conv=>whnf
         refine Br.no ?_
         conv=>whnf
         refine Br.no ?_
         conv=>whnf
         refine Br.flip ?_
         conv=>whnf
         refine Br.ob h (fun p62 h=> ?_) (fun p62 h=> ?_)
         ·conv=>whnf
          cases h;exact ⟨rfl,rfl⟩
         conv=>whnf
         cases h;exact ⟨rfl,rfl⟩
        rintro (⟨⟩ | ⟨⟩) h
        ·try dsimp only at h
         conv=>whnf
         cases h;exact (by first | rfl | simp only [Ah,Aa,V.fz,fzL,V.up,upL,Ab,Ac,Ad,slr] | simp [Ah,Aa,V.fz,fzL,V.up,upL,Ab,Ac,Ad,slr])
        try dsimp only at h
        conv=>whnf
        refine Cells.lit rfl rfl ?_
        conv=>whnf
        refine CallQ.o (fun r=>V.tup [Af r.1,V.bool r.2]) (by first | rfl | simp only [Aa,V.fz,fzL,V.up,upL,Ab,Ac,Ad,slr,List.cons_append,List.nil_append] | simp [Aa,V.fz,fzL,V.up,upL,Ab,Ac,Ad,slr]) h (fun r h=>Ms h) (fun r64 h=> ?_)
        conv=>whnf
        refine Br.ob h (fun p65 h=> ?_) (fun p65 h=> ?_)
        ·conv=>whnf
         refine Br.yes ?_
         conv=>whnf
         refine Br.yes ?_
         conv=>whnf
         refine Br.yes ?_
         conv=>whnf
         refine Br.yes ?_
         conv=>whnf
         cases h;exact (by first | rfl | simp only [Ah,Aa,V.fz,fzL,V.up,upL,Ab,Ac,Ad,slr] | simp [Ah,Aa,V.fz,fzL,V.up,upL,Ab,Ac,Ad,slr])
        conv=>whnf
        refine Br.no ?_
        conv=>whnf
        refine Br.no ?_
        conv=>whnf
        refine Br.no ?_
        conv=>whnf
        refine Br.no ?_
        conv=>whnf
        cases h;exact (by first | rfl | simp only [Ah,Aa,V.fz,fzL,V.up,upL,Ab,Ac,Ad,slr] | simp [Ah,Aa,V.fz,fzL,V.up,upL,Ab,Ac,Ad,slr])
       try dsimp only at h
       conv=>whnf
       cases h;exact (by first | rfl | simp only [Ah,Aa,V.fz,fzL,V.up,upL,Ab,Ac,Ad,slr] | simp [Ah,Aa,V.fz,fzL,V.up,upL,Ab,Ac,Ad,slr])
      try dsimp only at h
      conv=>whnf
      cases h;exact (by first | rfl | simp only [Ah,Aa,V.fz,fzL,V.up,upL,Ab,Ac,Ad,slr] | simp [Ah,Aa,V.fz,fzL,V.up,upL,Ab,Ac,Ad,slr])
     try dsimp only at h
     conv=>whnf
     cases h;exact (by first | rfl | simp only [Ah,Aa,V.fz,fzL,V.up,upL,Ab,Ac,Ad,slr] | simp [Ah,Aa,V.fz,fzL,V.up,upL,Ab,Ac,Ad,slr])
    try dsimp only at h
    conv=>whnf
    cases h;exact (by first | rfl | simp only [Ah,Aa,V.fz,fzL,V.up,upL,Ab,Ac,Ad,slr] | simp [Ah,Aa,V.fz,fzL,V.up,upL,Ab,Ac,Ad,slr])
   try dsimp only at h
   conv=>whnf
   cases h;exact (by first | rfl | simp only [Ah,Aa,V.fz,fzL,V.up,upL,Ab,Ac,Ad,slr] | simp [Ah,Aa,V.fz,fzL,V.up,upL,Ab,Ac,Ad,slr])
  try dsimp only at h
  conv=>whnf
  cases h;exact (by first | rfl | simp only [Ah,Aa,V.fz,fzL,V.up,upL,Ab,Ac,Ad,slr] | simp [Ah,Aa,V.fz,fzL,V.up,upL,Ab,Ac,Ad,slr])
 try dsimp only at h
 conv=>whnf
 cases h;exact (by first | rfl | simp only [Ah,Aa,V.fz,fzL,V.up,upL,Ab,Ac,Ad,slr] | simp [Ah,Aa,V.fz,fzL,V.up,upL,Ab,Ac,Ad,slr])
end Go.Proofs.YtbnoclklhcbidaaDoor.Ax
