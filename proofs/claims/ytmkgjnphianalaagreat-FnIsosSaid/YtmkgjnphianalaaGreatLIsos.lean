/-
 What the functions compute, as functions on plain data, and that the program does compute it; written by program.
-/
import Derived.Test.YtmkgjnphianalaaGreatCode
import Derived.Test.YtmkgjnphianalaaGreatG1
import Derived.Test.YtmkgjnphianalaaGreatG3
import Derived.Test.YtmkgjnphianalaaGreatG12
import Derived.Test.YtmkgjnphianalaaGreatG13
import Derived.Test.YtmkgjnphianalaaGreatG14
import Derived.Test.YtmkgjnphianalaaGreatG15
namespace Go.Proofs.YtmkgjnphianalaaGreat.Ax
open Go
set_option maxRecDepth 100000
set_option maxHeartbeats 4000000
noncomputable def E5 (_r22:SAlgebra×List Int) (r33:List (List Int)×Bool) (r39:List (List Int)×Bool):Int→Option (Int ⊕ (Unit ⊕ Unit)):=fun x31=>
 if x31<(↑r39.fst.length:Int) then
 ask ((0:Int)≤x31∧x31<(↑r39.fst.length:Int)) <|
 if (↑(nth r39.fst x31.toNat).length:Int)=(0:Int) then
 some (.inr (.inl ()))
 else
 ask ((0:Int)≤x31∧x31<(↑r39.fst.length:Int)) <|
 ask ((↑(nth r39.fst x31.toNat).length:Int)≠(0:Int)) <|
 if (↑r33.fst.length:Int).tmod (↑(nth r39.fst x31.toNat).length:Int)≠(0:Int) then
 some (.inr (.inl ()))
 else
 ask (InI (x31+(1:Int))) <|
 some (.inl (x31+(1:Int)))
 else
 some (.inr (.inr ()))
def Qb (r22:SAlgebra×List Int) (r33:List (List Int)×Bool) (r39:List (List Int)×Bool):Int→St:=fun s=>[(31,A.val (Ag s)),(27,A.val ((slr false 1 (slr false 1 Ag)) (r39.fst))),(23,A.val ((slr false 1 (slr false 1 Ag)) (r33.fst))),(15,A.val ((rP true (Ae false)) (r22.fst)))]
def Xo (r22:SAlgebra×List Int) (_r33:List (List Int)×Bool) (_r39:List (List Int)×Bool):(Unit ⊕ Unit)→Tgt
 | (.inl _s)=>(Ex.ret,[2],[(2,A.val (V.bool (false)))])
 | (.inr _s)=>((Ex.exit 0),[15],[(15,A.val ((rP true (Ae false)) (r22.fst)))])
theorem Ajl {r22:SAlgebra×List Int} {r33:List (List Int)×Bool} {r39:List (List Int)×Bool} (x31:Int) (o:Int ⊕ (Unit ⊕ Unit)) (h:E5 r22 r33 r39 x31=some o):vc Tryz.prog Y4 (Cr [31,27,23,15] (Qb r22 r33 r39) (Xo r22 r33 r39) o) (Qb r22 r33 r39 x31):=by
 unfold E5 at h
 try dsimp only at h
 refine Len.map<|Br.od h (fun p46 h=> ?_) (fun p46 h=> ?_)
 ·refine Len.map<|Ask.o h fun p47 h=>Elem.o (by first | omega | (simp [Aq] at * <;> omega))<|Len.map<|Br.oe h (fun p48 h=> ?_) (fun p48 h=> ?_)
  ·refine Br.yes<|Br.yes<|Br.yes<|Br.yes<|Br.yes<|Br.yes<|Br.yes<|Br.yes<|Br.yes<|Br.yes ?_
   cases h;exact ⟨rfl,rfl⟩
  refine Br.no<|Len.map<|Br.no<|Br.no<|Br.no<|Len.map<|Ask.o h fun p49 h=>Elem.o (by first | omega | (simp [Aq] at * <;> omega))<|Br.no<|Br.no<|Len.map<|Br.no<|Ask.o h fun p50 h=>Br.no<|Br.no<|Br.on h (fun p51 h=> ?_) (fun p51 h=> ?_)
  ·cases h;exact ⟨rfl,rfl⟩
  refine Ask.o h fun p52 h=> ?_
  cases h;exact ⟨rfl,rfl⟩
 cases h;exact ⟨rfl,rfl⟩
noncomputable def Qk (code0:(List Int)):Option Bool:=
 (Vp (code0)).bind fun r1=>
 if (r1)=true then
 some true
 else
 (Dv (code0)).bind fun r3=>
 (De (r3.fst) (r3.snd)).bind fun r4=>
 (((Fq (r3.fst) (r3.snd)).bind fun r5=>
 if (r4.fst==r5.fst)=true then
 if (r4.snd==r5.snd)=true then
 some (.inl ())
 else
 some (.inr ())
 else
 some (.inr ()):Option (Unit ⊕ Unit))).bind fun t=>match t with
 | (.inl _)=>((((De (r3.snd) (r3.fst)).bind fun r9=>
 if (r4.snd)=true then
 if (r9.snd)=true then
 if (r9.fst==r4.fst)=true then
 some (.inl ())
 else
 some (.inr ())
 else
 some (.inl ())
 else
 some (.inl ()):Option (Unit ⊕ Unit))).bind fun t=>match t with
 | (.inl _)=>((I7 (r3.fst) (r3.snd)).bind fun r14=>
 (((Jn (r3.fst) (r3.snd)).bind fun r15=>
 if (r14.snd==r15.snd)=true then
 (Lk (r14.fst) (r15.fst)).bind fun r17=>
 if (r17)=true then
 if (r4.snd)=true then
 if (r14.snd==r4.fst)=true then
 some (.inl ())
 else
 some (.inr ())
 else
 some (.inl ())
 else
 some (.inr ())
 else
 some (.inr ()):Option (Unit ⊕ Unit))).bind fun t=>match t with
 | (.inl _)=>((Dk (code0)).bind fun r22=>
 (Ew (r22.fst) (r22.snd)).bind fun r23=>
 ((if (r23.snd)=true then
 (((N6 (r22.fst) (r23.fst) (r22.snd)).bind fun r25=>
 if (r25.snd)=true then
 if (r25.fst)=true then
 some (.inl ())
 else
 some (.inr ())
 else
 some (.inr ()):Option (Unit ⊕ Unit))).bind fun t=>match t with
 | (.inl _)=>((De (r22.fst) (r23.fst)).bind fun r29=>
 if (r29.snd)=true then
 if (r29.fst)=true then
 some (.inl ())
 else
 some (.inr ())
 else
 some (.inl ()))
 | (.inr _)=>(some (.inr ()))
 else
 some (.inl ()):Option (Unit ⊕ Unit))).bind fun t=>match t with
 | (.inl _)=>((D7 (r22.fst)).bind fun r33=>
 (((Ft (r22.fst)).bind fun r34=>
 if (r33.snd==r34.snd)=true then
 (Gi (r33.fst) (r34.fst)).bind fun r36=>
 if (r36)=true then
 some (.inl ())
 else
 some (.inr ())
 else
 some (.inr ()):Option (Unit ⊕ Unit))).bind fun t=>match t with
 | (.inl _)=>((Dm (r22.fst)).bind fun r39=>
 (((Dl (r22.fst)).bind fun r40=>
 if (r39.snd==r40.snd)=true then
 if (r39.snd==r33.snd)=true then
 (Gi (r39.fst) (r40.fst)).bind fun r43=>
 if (r43)=true then
 some (.inl ())
 else
 some (.inr ())
 else
 some (.inr ())
 else
 some (.inr ()):Option (Unit ⊕ Unit))).bind fun t=>match t with
 | (.inl _)=>((Aj (E5 r22 r33 r39) (0:Int)).bind fun t=>match t with
 | (.inl _)=>(some false)
 | (.inr _)=>((Df (r22.fst)).bind fun r54=>
 (((Fr (r22.fst)).bind fun r55=>
 if (r54.snd==r55.snd)=true then
 (Gi (r54.fst) (r55.fst)).bind fun r57=>
 if (r57)=true then
 some (.inl ())
 else
 some (.inr ())
 else
 some (.inr ()):Option (Unit ⊕ Unit))).bind fun t=>match t with
 | (.inl _)=>((G2 (r22.fst)).bind fun r60=>
 (G1 (r22.fst)).bind fun r61=>
 if (r60.snd==r61.snd)=true then
 if (r60.snd==r54.snd)=true then
 (Gi (r60.fst) (r61.fst)).bind fun r64=>
 some r64
 else
 some false
 else
 some false)
 | (.inr _)=>(some false)))
 | (.inr _)=>(some false))
 | (.inr _)=>(some false))
 | (.inr _)=>(some false))
 | (.inr _)=>(some false))
 | (.inr _)=>(some false))
 | (.inr _)=>(some false)
theorem Ar7 {code0:(List Int)} {v:Bool} (h:Qk code0=some v):Ret Tryz.prog Aec [(slr false 1 (V.int IntKind.u8)) code0] (V.bool v):=by
 refine A6 Arl (Nat.le_of_ble_eq_true rfl) ?_
 unfold Qk at h
 refine CallQ.o V.bool (by rfl) h (fun r h=>Axe h) (fun r1 h=> ?_)
 refine Br.ob h (fun p2 h=> ?_) (fun p2 h=> ?_)
 ·cases h;exact (by rfl)
 refine CallQ.o (fun r=>V.tup [(Ae false) r.1,(Ae false) r.2]) (by rfl) h (fun r h=>Wm h) (fun r3 h=> ?_)
 refine SetKids.lit rfl<|SetKids.lit rfl<|Cells.lit rfl rfl<|Cells.lit rfl rfl<|CallQ.o (fun r=>V.tup [V.bool r.1,V.bool r.2]) (by rfl) h (fun r h=>Ku h) (fun r4 h=> ?_)
 refine CutQ.o (fun t:(Unit ⊕ Unit)=>match t with | (.inl s)=>(Ex.normal,[6,5,4,3,0],[(6,A.val (V.bool (r4.snd))),(5,A.val (V.bool (r4.fst))),(4,A.val ((rP true (Ae false)) (r3.snd))),(3,A.val ((rP true (Ae false)) (r3.fst))),(0,A.val ((slr false 1 (V.int IntKind.u8)) (code0)))]) | (.inr s)=>(Ex.ret,[2],[(2,A.val (V.bool (false)))])) h ?_ ?_
 ·intro t h
  refine Cells.lit rfl rfl<|Cells.lit rfl rfl<|CallQ.o (fun r=>V.tup [V.bool r.1,V.bool r.2]) (by rfl) h (fun r h=>Ac8 h) (fun r5 h=> ?_)
  refine Br.flip<|Br.ob h (fun p6 h=> ?_) (fun p6 h=> ?_)
  ·refine Br.no<|Br.no<|Br.no<|Br.flip<|Br.ob h (fun p7 h=> ?_) (fun p7 h=> ?_)
   ·cases h;exact ⟨rfl,rfl⟩
   cases h;exact ⟨rfl,rfl⟩
  refine Br.yes<|Br.yes<|Br.yes<|Br.yes ?_
  cases h;exact ⟨rfl,rfl⟩
 rintro (⟨⟩ | ⟨⟩) h
 ·try dsimp only at h
  refine CutQ.o (fun t:(Unit ⊕ Unit)=>match t with | (.inl s)=>(Ex.normal,[6,5,4,3,0],[(6,A.val (V.bool (r4.snd))),(5,A.val (V.bool (r4.fst))),(4,A.val ((rP true (Ae false)) (r3.snd))),(3,A.val ((rP true (Ae false)) (r3.fst))),(0,A.val ((slr false 1 (V.int IntKind.u8)) (code0)))]) | (.inr s)=>(Ex.ret,[2],[(2,A.val (V.bool (false)))])) h ?_ ?_
  ·intro t h
   refine Cells.lit rfl rfl<|Cells.lit rfl rfl<|CallQ.o (fun r=>V.tup [V.bool r.1,V.bool r.2]) (by rfl) h (fun r h=>Ku h) (fun r9 h=> ?_)
   refine Br.ob h (fun p10 h=> ?_) (fun p10 h=> ?_)
   ·refine Br.yes<|Br.ob h (fun p11 h=> ?_) (fun p11 h=> ?_)
    ·refine Br.yes<|Br.yes<|Br.yes<|Br.flip<|Br.ob h (fun p12 h=> ?_) (fun p12 h=> ?_)
     ·cases h;exact ⟨rfl,rfl⟩
     cases h;exact ⟨rfl,rfl⟩
    refine Br.no<|Br.no<|Br.no<|Br.no ?_
    cases h;exact ⟨rfl,rfl⟩
   refine Br.no<|Br.no<|Br.no<|Br.no<|Br.no<|Br.no ?_
   cases h;exact ⟨rfl,rfl⟩
  rintro (⟨⟩ | ⟨⟩) h
  ·try dsimp only at h
   refine Cells.lit rfl rfl<|Cells.lit rfl rfl<|CallQ.o (fun r=>V.tup [(slr false 1 Ag) r.1,V.bool r.2]) (by rfl) h (fun r h=>Ak6 h) (fun r14 h=> ?_)
   refine CutQ.o (fun t:(Unit ⊕ Unit)=>match t with | (.inl s)=>(Ex.normal,[0],[(0,A.val ((slr false 1 (V.int IntKind.u8)) (code0)))]) | (.inr s)=>(Ex.ret,[2],[(2,A.val (V.bool (false)))])) h ?_ ?_
   ·intro t h
    refine Cells.lit rfl rfl<|Cells.lit rfl rfl<|CallQ.o (fun r=>V.tup [(slr false 1 Ag) r.1,V.bool r.2]) (by rfl) h (fun r h=>Alx h) (fun r15 h=> ?_)
    refine Br.flip<|Br.ob h (fun p16 h=> ?_) (fun p16 h=> ?_)
    ·refine Br.no<|Br.no<|CallQ.o V.bool (by rfl) h (fun r h=>Ahe h) (fun r17 h=> ?_)
     refine Br.no<|Br.no<|Br.flip<|Br.ob h (fun p18 h=> ?_) (fun p18 h=> ?_)
     ·refine Br.no<|Br.ob h (fun p19 h=> ?_) (fun p19 h=> ?_)
      ·refine Br.yes<|Br.yes<|Br.no<|Br.yes<|Br.no<|Br.flip<|Br.ob h (fun p20 h=> ?_) (fun p20 h=> ?_)
       ·cases h;exact ⟨rfl,rfl⟩
       cases h;exact ⟨rfl,rfl⟩
      refine Br.no<|Br.no<|Br.no<|Br.no<|Br.no<|Br.no ?_
      cases h;exact ⟨rfl,rfl⟩
     refine Br.yes<|Br.yes<|Br.yes<|Br.yes ?_
     cases h;exact ⟨rfl,rfl⟩
    refine Br.yes<|Br.yes<|Br.yes<|Br.yes<|Br.yes<|Br.yes<|Br.yes<|Br.yes<|Br.yes ?_
    cases h;exact ⟨rfl,rfl⟩
   rintro (⟨⟩ | ⟨⟩) h
   ·try dsimp only at h
    refine CallQ.o (fun r=>V.tup [(Ae false) r.1,(slr false 1 Ag) r.2]) (by rfl) h (fun r h=>Ret.frz (U0 h) (by first | rfl | simp only [V.fz,fzL,Ab,slr] | simp [Aa,V.fz,fzL,V.up,upL,Ab,Ac,Ad,slr])) (fun r22 h=> ?_)
    refine SetKids.lit rfl<|Cells.lit rfl rfl<|CallQ.o (fun r=>V.tup [(Ae true) r.1,V.bool r.2]) (by rfl) h (fun r h=>Aa6 h) (fun r23 h=> ?_)
    refine SetKids.lit rfl<|CutQ.o (fun t:(Unit ⊕ Unit)=>match t with | (.inl s)=>(Ex.normal,[15],[(15,A.val ((rP true (Ae false)) (r22.fst)))]) | (.inr s)=>(Ex.ret,[2],[(2,A.val (V.bool (false)))])) h ?_ ?_
    ·intro t h
     refine Br.ob h (fun p24 h=> ?_) (fun p24 h=> ?_)
     ·refine CutQ.o (fun t:(Unit ⊕ Unit)=>match t with | (.inl s)=>(Ex.normal,[17,15],[(17,A.val ((rP true (Ae true)) (r23.fst))),(15,A.val ((rP true (Ae false)) (r22.fst)))]) | (.inr s)=>(Ex.ret,[2],[(2,A.val (V.bool (false)))])) h ?_ ?_
      ·intro t h
       refine Cells.lit rfl rfl<|Cells.lit rfl rfl<|CallQ.rd (fun r=>V.tup [V.bool r.1,V.bool r.2]) (by first | rfl | simp only [V.fz,fzL,V.up,Ab,Ad,slr] | simp [Aa,V.fz,fzL,V.up,upL,Ab,Ac,Ad,slr]) (fun _=>by simp [V.noFz,Ch]) h (fun r h=>Avk h) (fun r25 h=> ?_)
       refine Br.flip<|Br.ob h (fun p26 h=> ?_) (fun p26 h=> ?_)
       ·refine Br.no<|Br.no<|Br.flip<|Br.ob h (fun p27 h=> ?_) (fun p27 h=> ?_)
        ·cases h;exact ⟨rfl,rfl⟩
        cases h;exact ⟨rfl,rfl⟩
       refine Br.yes<|Br.yes<|Br.yes ?_
       cases h;exact ⟨rfl,rfl⟩
      rintro (⟨⟩ | ⟨⟩) h
      ·try dsimp only at h
       refine Cells.lit rfl rfl<|Cells.lit rfl rfl<|CallQ.rd (fun r=>V.tup [V.bool r.1,V.bool r.2]) (by first | rfl | simp only [V.fz,fzL,Ab] | simp [Aa,V.fz,fzL,V.up,upL,Ab,Ac,Ad,slr]) (fun _=>by simp [V.noFz,Ch]) h (fun r h=>Ku h) (fun r29 h=> ?_)
       refine Br.ob h (fun p30 h=> ?_) (fun p30 h=> ?_)
       ·refine Br.yes<|Br.yes<|Br.flip<|Br.ob h (fun p31 h=> ?_) (fun p31 h=> ?_)
        ·cases h;exact ⟨rfl,rfl⟩
        cases h;exact ⟨rfl,rfl⟩
       refine Br.no<|Br.no<|Br.no ?_
       cases h;exact ⟨rfl,rfl⟩
      try dsimp only at h
      cases h;exact ⟨rfl,rfl⟩
     cases h;exact ⟨rfl,rfl⟩
    rintro (⟨⟩ | ⟨⟩) h
    ·try dsimp only at h
     refine Cells.lit rfl rfl<|CallQ.o (fun r=>V.tup [(slr false 1 (slr false 1 Ag)) r.1,V.bool r.2]) (by rfl) h (fun r h=>Ret.frz (Rb h) (by first | rfl | simp only [V.fz,fzL,Ab,slr] | simp [Aa,V.fz,fzL,V.up,upL,Ab,Ac,Ad,slr])) (fun r33 h=> ?_)
     refine CutQ.o (fun t:(Unit ⊕ Unit)=>match t with | (.inl s)=>(Ex.normal,[24,23,15],[(24,A.val (V.bool (r33.snd))),(23,A.val ((slr false 1 (slr false 1 Ag)) (r33.fst))),(15,A.val ((rP true (Ae false)) (r22.fst)))]) | (.inr s)=>(Ex.ret,[2],[(2,A.val (V.bool (false)))])) h ?_ ?_
     ·intro t h
      refine Cells.lit rfl rfl<|CallQ.o (fun r=>V.tup [(slr false 1 (slr false 1 Ag)) r.1,V.bool r.2]) (by rfl) h (fun r h=>Abf h) (fun r34 h=> ?_)
      refine Br.flip<|Br.ob h (fun p35 h=> ?_) (fun p35 h=> ?_)
      ·refine Br.no<|Br.no<|CallQ.o V.bool (by rfl) h (fun r h=>Qp h) (fun r36 h=> ?_)
       refine Br.no<|Br.no<|Br.flip<|Br.ob h (fun p37 h=> ?_) (fun p37 h=> ?_)
       ·cases h;exact ⟨rfl,rfl⟩
       cases h;exact ⟨rfl,rfl⟩
      refine Br.yes<|Br.yes<|Br.yes<|Br.yes<|Br.yes ?_
      cases h;exact ⟨rfl,rfl⟩
     rintro (⟨⟩ | ⟨⟩) h
     ·try dsimp only at h
      refine Cells.lit rfl rfl<|CallQ.o (fun r=>V.tup [(slr false 1 (slr false 1 Ag)) r.1,V.bool r.2]) (by rfl) h (fun r h=>Ret.frz (Uz h) (by first | rfl | simp only [V.fz,fzL,Ab,slr] | simp [Aa,V.fz,fzL,V.up,upL,Ab,Ac,Ad,slr])) (fun r39 h=> ?_)
      refine CutQ.o (fun t:(Unit ⊕ Unit)=>match t with | (.inl s)=>(Ex.normal,[27,23,15],[(27,A.val ((slr false 1 (slr false 1 Ag)) (r39.fst))),(23,A.val ((slr false 1 (slr false 1 Ag)) (r33.fst))),(15,A.val ((rP true (Ae false)) (r22.fst)))]) | (.inr s)=>(Ex.ret,[2],[(2,A.val (V.bool (false)))])) h ?_ ?_
      ·intro t h
       refine Cells.lit rfl rfl<|CallQ.o (fun r=>V.tup [(slr false 1 (slr false 1 Ag)) r.1,V.bool r.2]) (by rfl) h (fun r h=>U3 h) (fun r40 h=> ?_)
       refine Br.flip<|Br.ob h (fun p41 h=> ?_) (fun p41 h=> ?_)
       ·refine Br.no<|Br.no<|Br.no<|Br.flip<|Br.ob h (fun p42 h=> ?_) (fun p42 h=> ?_)
        ·refine Br.no<|Br.no<|CallQ.o V.bool (by rfl) h (fun r h=>Qp h) (fun r43 h=> ?_)
         refine Br.no<|Br.no<|Br.flip<|Br.ob h (fun p44 h=> ?_) (fun p44 h=> ?_)
         ·cases h;exact ⟨rfl,rfl⟩
         cases h;exact ⟨rfl,rfl⟩
        refine Br.yes<|Br.yes<|Br.yes<|Br.yes<|Br.yes ?_
        cases h;exact ⟨rfl,rfl⟩
       refine Br.yes<|Br.yes<|Br.yes<|Br.yes<|Br.yes<|Br.yes<|Br.yes<|Br.yes<|Br.yes ?_
       cases h;exact ⟨rfl,rfl⟩
      rintro (⟨⟩ | ⟨⟩) h
      ·try dsimp only at h
       refine LoopQ.o [31,27,23,15] (Qb r22 r33 r39) (Xo r22 r33 r39) h (fun s o h=>Ajl s o h) (by rfl) (by rintro (_ | _)<;>rfl) ?_
       rintro (⟨⟩ | ⟨⟩) h
       ·try dsimp only at h
        cases h;exact (by rfl)
       try dsimp only at h
       refine Cells.lit rfl rfl<|CallQ.o (fun r=>V.tup [(slr true 1 (slr true 1 Ag)) r.1,V.bool r.2]) (by rfl) h (fun r h=>Q4 h) (fun r54 h=> ?_)
       refine CutQ.o (fun t:(Unit ⊕ Unit)=>match t with | (.inl s)=>(Ex.normal,[33,15],[(33,A.val (V.bool (r54.snd))),(15,A.val ((rP true (Ae false)) (r22.fst)))]) | (.inr s)=>(Ex.ret,[2],[(2,A.val (V.bool (false)))])) h ?_ ?_
       ·intro t h
        refine Cells.lit rfl rfl<|CallQ.o (fun r=>V.tup [(slr false 1 (slr false 1 Ag)) r.1,V.bool r.2]) (by rfl) h (fun r h=>Abe h) (fun r55 h=> ?_)
        refine Br.flip<|Br.ob h (fun p56 h=> ?_) (fun p56 h=> ?_)
        ·refine Br.no<|Br.no<|CallQ.rd V.bool (by first | rfl | simp only [V.fz,V.up,Ab,slr] | simp [Aa,V.fz,fzL,V.up,upL,Ab,Ac,Ad,slr]) (fun _=>rfl) h (fun r h=>Qp h) (fun r57 h=> ?_)
         refine Br.no<|Br.no<|Br.flip<|Br.ob h (fun p58 h=> ?_) (fun p58 h=> ?_)
         ·cases h;exact ⟨rfl,rfl⟩
         cases h;exact ⟨rfl,rfl⟩
        refine Br.yes<|Br.yes<|Br.yes<|Br.yes<|Br.yes ?_
        cases h;exact ⟨rfl,rfl⟩
       rintro (⟨⟩ | ⟨⟩) h
       ·try dsimp only at h
        refine Cells.lit rfl rfl<|CallQ.o (fun r=>V.tup [(slr false 1 (slr false 1 Ag)) r.1,V.bool r.2]) (by rfl) h (fun r h=>Ae2 h) (fun r60 h=> ?_)
        refine Cells.lit rfl rfl<|CallQ.o (fun r=>V.tup [(slr false 1 (slr false 1 Ag)) r.1,V.bool r.2]) (by rfl) h (fun r h=>Afr h) (fun r61 h=> ?_)
        refine Br.ob h (fun p62 h=> ?_) (fun p62 h=> ?_)
        ·refine Br.yes<|Br.yes<|Br.yes<|Br.ob h (fun p63 h=> ?_) (fun p63 h=> ?_)
         ·refine Br.yes<|Br.yes<|CallQ.o V.bool (by rfl) h (fun r h=>Qp h) (fun r64 h=> ?_)
          refine Br.yes ?_
          cases h;exact (by rfl)
         refine Br.no<|Br.no<|Br.no ?_
         cases h;exact (by rfl)
        refine Br.no<|Br.no<|Br.no<|Br.no<|Br.no<|Br.no<|Br.no ?_
        cases h;exact (by rfl)
       try dsimp only at h
       cases h;exact (by rfl)
      try dsimp only at h
      cases h;exact (by rfl)
     try dsimp only at h
     cases h;exact (by rfl)
    try dsimp only at h
    cases h;exact (by rfl)
   try dsimp only at h
   cases h;exact (by rfl)
  try dsimp only at h
  cases h;exact (by rfl)
 try dsimp only at h
 cases h;exact (by rfl)
end Go.Proofs.YtmkgjnphianalaaGreat.Ax
