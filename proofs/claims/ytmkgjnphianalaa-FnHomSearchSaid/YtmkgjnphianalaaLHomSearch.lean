/-
 What the functions compute, as functions on plain data, and that the program does compute it; written by program.
-/
import Derived.Test.YtmkgjnphianalaaCode
import Derived.Test.YtmkgjnphianalaaG1
import Derived.Test.YtmkgjnphianalaaG3
import Derived.Test.YtmkgjnphianalaaG10
import Derived.Test.YtmkgjnphianalaaG12
import Derived.Test.YtmkgjnphianalaaG14
import Derived.Test.YtmkgjnphianalaaG15
namespace Go.Proofs.Ytmkgjnphianalaa.Ax
open Go
set_option maxRecDepth 100000
set_option maxHeartbeats 4000000
noncomputable def C2 (_code0:List Int) (_r3:SAlgebra×SAlgebra) (r4:List (List Int)×Bool) (r11:Int):(Int×(List Int))→Option ((Int×(List Int)) ⊕ (List Int)):=fun (x13,x12)=>
 if x13<(↑(nth r4.fst (r11.tmod (↑r4.fst.length:Int)).toNat).length:Int) then
 ask ((x12).length+([(-1:Int)]).length≤LIM) <|
 ask (InI (x13+(1:Int))) <|
 some (.inl (x13+(1:Int),x12++[(-1:Int)]))
 else
 some (.inr x12)
def I2 (code0:List Int) (r3:SAlgebra×SAlgebra) (r4:List (List Int)×Bool) (r11:Int):(Int×(List Int))→St:=fun s=>[(13,A.val (Ag s.1)),(12,A.val ((slr true 1 Ag) s.2)),(9,A.val ((slr false 1 Ag) (nth r4.fst (r11.tmod (↑r4.fst.length:Int)).toNat))),(6,A.val (V.bool (r4.snd))),(5,A.val ((slr false 1 (slr false 1 Ag)) (r4.fst))),(4,A.val ((rP true (Ae false)) (r3.snd))),(3,A.val ((rP true (Ae false)) (r3.fst))),(0,A.val ((slr false 1 (V.int IntKind.u8)) (code0)))]
def Nm (code0:List Int) (r3:SAlgebra×SAlgebra) (r4:List (List Int)×Bool) (r11:Int):(List Int)→Tgt
 | s=>((Ex.exit 0),[12,9,6,5,4,3,0],[(12,A.val ((slr true 1 Ag) s)),(9,A.val ((slr false 1 Ag) (nth r4.fst (r11.tmod (↑r4.fst.length:Int)).toNat))),(6,A.val (V.bool (r4.snd))),(5,A.val ((slr false 1 (slr false 1 Ag)) (r4.fst))),(4,A.val ((rP true (Ae false)) (r3.snd))),(3,A.val ((rP true (Ae false)) (r3.fst))),(0,A.val ((slr false 1 (V.int IntKind.u8)) (code0)))])
theorem Yw {code0:List Int} {r3:SAlgebra×SAlgebra} {r4:List (List Int)×Bool} {r11:Int} (s:(Int×(List Int))) (o:(Int×(List Int)) ⊕ (List Int)) (h:C2 code0 r3 r4 r11 s=some o):vc Try.prog Nn (C1 [13,12,9,6,5,4,3,0] (I2 code0 r3 r4 r11) (Nm code0 r3 r4 r11) o) (I2 code0 r3 r4 r11 s):=by
 obtain ⟨x13,x12⟩:=s
 unfold C2 at h
 try dsimp only at h
 refine Len.map ?_
 refine Br.od h (fun p18 h=> ?_) (fun p18 h=> ?_)
 ·refine BslQ.o Ag ([(-1:Int)]) (by exact fun _=>⟨rfl,rfl⟩) (by first | rfl | (simp only [Aa,V.fz,fzL,V.up,upL,Ab,Ac,Ad,slr,List.cons_append,List.nil_append];done) | simp [Aa,V.fz,fzL,V.up,upL,Ab,Ac,Ad,slr]) ?_
  refine NoOwn.o (fun _=>rfl) ?_
  refine AppQ.o (m:=1) Ag (by exact fun _=>⟨rfl,rfl⟩) (x12) ([(-1:Int)]) (by rfl) (by rfl) h fun h=> ?_
  refine Ask.o h fun p19 h=> ?_
  cases h;exact ⟨rfl,rfl⟩
 cases h;exact ⟨rfl,rfl⟩
noncomputable def C0 (_code0:List Int) (_r3:SAlgebra×SAlgebra) (r4:List (List Int)×Bool) (r11:Int) (r25:List Int×Bool):Int→Option (Int ⊕ (Unit ⊕ Unit)):=fun x17=>
 if x17<(↑(nth r4.fst (r11.tmod (↑r4.fst.length:Int)).toNat).length:Int) then
 ask ((0:Int)≤x17∧x17<(↑r25.fst.length:Int)) <|
 if nth r25.fst x17.toNat≥(0:Int) then
 ask ((0:Int)≤x17∧x17<(↑r25.fst.length:Int)) <|
 ask ((0:Int)≤x17∧x17<(↑(nth r4.fst (r11.tmod (↑r4.fst.length:Int)).toNat).length:Int)) <|
 if nth r25.fst x17.toNat≠nth (nth r4.fst (r11.tmod (↑r4.fst.length:Int)).toNat) x17.toNat then
 some (.inr (.inl ()))
 else
 ask (InI (x17+(1:Int))) <|
 some (.inl (x17+(1:Int)))
 else
 ask (InI (x17+(1:Int))) <|
 some (.inl (x17+(1:Int)))
 else
 some (.inr (.inr ()))
def I0 (code0:List Int) (r3:SAlgebra×SAlgebra) (r4:List (List Int)×Bool) (r11:Int) (r25:List Int×Bool):Int→St:=fun s=>[(17,A.val (Ag s)),(15,A.val ((slr true 1 Ag) (r25.fst))),(9,A.val ((slr false 1 Ag) (nth r4.fst (r11.tmod (↑r4.fst.length:Int)).toNat))),(6,A.val (V.bool (r4.snd))),(5,A.val ((slr false 1 (slr false 1 Ag)) (r4.fst))),(4,A.val ((rP true (Ae false)) (r3.snd))),(3,A.val ((rP true (Ae false)) (r3.fst))),(0,A.val ((slr false 1 (V.int IntKind.u8)) (code0)))]
def Np (code0:List Int) (r3:SAlgebra×SAlgebra) (r4:List (List Int)×Bool) (_r11:Int) (_r25:List Int×Bool):(Unit ⊕ Unit)→Tgt
 | (.inl _s)=>(Ex.ret,[2],[(2,A.val (V.bool (false)))])
 | (.inr _s)=>((Ex.exit 2),[6,5,4,3,0],[(6,A.val (V.bool (r4.snd))),(5,A.val ((slr false 1 (slr false 1 Ag)) (r4.fst))),(4,A.val ((rP true (Ae false)) (r3.snd))),(3,A.val ((rP true (Ae false)) (r3.fst))),(0,A.val ((slr false 1 (V.int IntKind.u8)) (code0)))])
theorem Yr {code0:List Int} {r3:SAlgebra×SAlgebra} {r4:List (List Int)×Bool} {r11:Int} {r25:List Int×Bool} (x17:Int) (o:Int ⊕ (Unit ⊕ Unit)) (h:C0 code0 r3 r4 r11 r25 x17=some o):vc Try.prog Ns (C1 [17,15,9,6,5,4,3,0] (I0 code0 r3 r4 r11 r25) (Np code0 r3 r4 r11 r25) o) (I0 code0 r3 r4 r11 r25 x17):=by
 unfold C0 at h
 try dsimp only at h
 refine Len.map ?_
 refine Br.od h (fun p29 h=> ?_) (fun p29 h=> ?_)
 ·refine Len.map ?_
  refine Ask.o h fun p30 h=> ?_
  refine Cells.one (fun _=>⟨rfl,rfl⟩) (by first | omega | (simp [Aw] at * <;> omega)) ?_
  refine Br.od h (fun p31 h=> ?_) (fun p31 h=> ?_)
  ·refine Br.yes ?_
   refine Br.yes ?_
   refine Len.map ?_
   refine Ask.o h fun p32 h=> ?_
   refine Br.yes ?_
   refine Cells.one (fun _=>⟨rfl,rfl⟩) (by first | omega | (simp [Aw] at * <;> omega)) ?_
   refine Br.yes ?_
   refine Br.yes ?_
   refine Br.yes ?_
   refine Len.map ?_
   refine Ask.o h fun p33 h=> ?_
   refine Elem.o (by first | omega | (simp [Aw] at * <;> omega)) ?_
   refine Br.yes ?_
   refine Br.yes ?_
   refine Br.yes ?_
   refine Br.on h (fun p34 h=> ?_) (fun p34 h=> ?_)
   ·cases h;exact ⟨rfl,rfl⟩
   refine Ask.o h fun p35 h=> ?_
   cases h;exact ⟨rfl,rfl⟩
  refine Br.no ?_
  refine Br.no ?_
  refine Br.no ?_
  refine Br.no ?_
  refine Br.no ?_
  refine Br.no ?_
  refine Br.no ?_
  refine Br.no ?_
  refine Br.no ?_
  refine Br.no ?_
  refine Ask.o h fun p36 h=> ?_
  cases h;exact ⟨rfl,rfl⟩
 cases h;exact ⟨rfl,rfl⟩
noncomputable def H9 (code0:(List Int)):Option Bool:=
 (S6 (code0)).bind fun r1=>
 if (r1)=true then
 some true
 else
 (Gc (code0)).bind fun r3=>
 (Je (r3.fst) (r3.snd)).bind fun r4=>
 (((Jw (r3.fst) (r3.snd)).bind fun r5=>
 if (r4.snd==r5.snd)=true then
 (Kx (r4.fst) (r5.fst)).bind fun r7=>
 if (r7)=true then
 some (.inl ())
 else
 some (.inr ())
 else
 some (.inr ()):Option (Unit ⊕ Unit))).bind fun t=>match t with
 | (.inl _)=>(((if (↑r4.fst.length:Int)>(0:Int) then
 (Jy (code0) ((2:Int))).bind fun r11=>
 ask ((↑r4.fst.length:Int)≠(0:Int)) <|
 ask ((0:Int)≤r11.tmod (↑r4.fst.length:Int)∧r11.tmod (↑r4.fst.length:Int)<(↑r4.fst.length:Int)) <|
 (((Ng (r3.fst) (r3.snd) (nth r4.fst (r11.tmod (↑r4.fst.length:Int)).toNat)).bind fun r14=>
 if (r14.snd)=true then
 if (r14.fst)=true then
 some (.inl ())
 else
 some (.inr ())
 else
 some (.inr ()):Option (Unit ⊕ Unit))).bind fun t=>match t with
 | (.inl _)=>((Al (C2 code0 r3 r4 r11) ((0:Int),Ao Int)).bind fun q20_12=>
 (Jy (code0) ((3:Int))).bind fun r21=>
 ask ((↑(nth r4.fst (r11.tmod (↑r4.fst.length:Int)).toNat).length:Int)≠(0:Int)) <|
 ask ((0:Int)≤r21.tmod (↑(nth r4.fst (r11.tmod (↑r4.fst.length:Int)).toNat).length:Int)∧r21.tmod (↑(nth r4.fst (r11.tmod (↑r4.fst.length:Int)).toNat).length:Int)<(↑(nth r4.fst (r11.tmod (↑r4.fst.length:Int)).toNat).length:Int)) <|
 ask ((0:Int)≤r21.tmod (↑(nth r4.fst (r11.tmod (↑r4.fst.length:Int)).toNat).length:Int)∧r21.tmod (↑(nth r4.fst (r11.tmod (↑r4.fst.length:Int)).toNat).length:Int)<(↑q20_12.length:Int)) <|
 (Ed (r3.fst) (r3.snd) (q20_12.set (r21.tmod (↑(nth r4.fst (r11.tmod (↑r4.fst.length:Int)).toNat).length:Int)).toNat (nth (nth r4.fst (r11.tmod (↑r4.fst.length:Int)).toNat) (r21.tmod (↑(nth r4.fst (r11.tmod (↑r4.fst.length:Int)).toNat).length:Int)).toNat))).bind fun r25=>
 ((if (r25.snd)=true then
 if (↑r25.fst.length:Int)≠(↑(nth r4.fst (r11.tmod (↑r4.fst.length:Int)).toNat).length:Int) then
 some (.inl ())
 else
 some (.inr ())
 else
 some (.inl ()):Option (Unit ⊕ Unit))).bind fun t=>match t with
 | (.inl _)=>(some (.inl ()))
 | (.inr _)=>((Al (C0 code0 r3 r4 r11 r25) (0:Int)).bind fun t=>match t with
 | (.inl _)=>(some (.inl ()))
 | (.inr _)=>(some (.inr ()))))
 | (.inr _)=>(some (.inl ()))
 else
 some (.inr ()):Option (Unit ⊕ Unit))).bind fun t=>match t with
 | (.inl _)=>(some false)
 | (.inr _)=>((El (r3.fst) (r3.snd)).bind fun r39=>
 (((En (r3.fst) (r3.snd)).bind fun r40=>
 if (r39.snd==r40.snd)=true then
 (D7 (r39.fst) (r40.fst)).bind fun r42=>
 if (r42)=true then
 if (r4.snd)=true then
 if (r39.snd)=true then
 (Lk (r4.fst) (r39.fst)).bind fun r46=>
 if (r46)=true then
 some (.inl ())
 else
 some (.inr ())
 else
 some (.inl ())
 else
 some (.inl ())
 else
 some (.inr ())
 else
 some (.inr ()):Option (Unit ⊕ Unit))).bind fun t=>match t with
 | (.inl _)=>((Hk (r3.fst) (r3.snd)).bind fun r49=>
 (((Hj (r3.fst) (r3.snd)).bind fun r50=>
 if (r49.snd==r50.snd)=true then
 (D7 (r49.fst) (r50.fst)).bind fun r52=>
 if (r52)=true then
 if (r4.snd)=true then
 if (r49.snd)=true then
 (Lk (r4.fst) (r49.fst)).bind fun r56=>
 if (r56)=true then
 some (.inl ())
 else
 some (.inr ())
 else
 some (.inl ())
 else
 some (.inl ())
 else
 some (.inr ())
 else
 some (.inr ()):Option (Unit ⊕ Unit))).bind fun t=>match t with
 | (.inl _)=>((D1 (code0)).bind fun r59=>
 (Ed (r59.fst) (r59.snd.fst) (r59.snd.snd)).bind fun r60=>
 (Fp (r59.fst) (r59.snd.fst) (r59.snd.snd)).bind fun r61=>
 if (r60.snd==r61.snd)=true then
 (D7 (r60.fst) (r61.fst)).bind fun r63=>
 some r63
 else
 some false)
 | (.inr _)=>(some false))
 | (.inr _)=>(some false)))
 | (.inr _)=>(some false)
theorem Acg {code0:(List Int)} {v:Bool} (h:H9 code0=some v):Ret Try.prog R8 [(slr false 1 (V.int IntKind.u8)) code0] (V.bool v):=by
 refine Bb Ac6 (Nat.le_of_ble_eq_true rfl) ?_
 unfold H9 at h
 refine CallQ.o V.bool (by rfl) h (fun r h=>Atj h) (fun r1 h=> ?_)
 refine Br.ob h (fun p2 h=> ?_) (fun p2 h=> ?_)
 ·cases h;exact (by rfl)
 refine CallQ.o (fun r=>V.tup [(Ae false) r.1,(Ae false) r.2]) (by rfl) h (fun r h=>Acp h) (fun r3 h=> ?_)
 refine SetKids.lit rfl ?_
 refine SetKids.lit rfl ?_
 refine Cells.lit rfl rfl ?_
 refine Cells.lit rfl rfl ?_
 refine CallQ.o (fun r=>V.tup [(slr false 1 (slr false 1 Ag)) r.1,V.bool r.2]) (by rfl) h (fun r h=>Ret.frz (Aj0 h) (by first | rfl | simp only [V.fz,fzL,Ab,slr] | simp [Aa,V.fz,fzL,V.up,upL,Ab,Ac,Ad,slr])) (fun r4 h=> ?_)
 refine CutQ.o (fun t:(Unit ⊕ Unit)=>match t with | (.inl s)=>(Ex.normal,[6,5,4,3,0],[(6,A.val (V.bool (r4.snd))),(5,A.val ((slr false 1 (slr false 1 Ag)) (r4.fst))),(4,A.val ((rP true (Ae false)) (r3.snd))),(3,A.val ((rP true (Ae false)) (r3.fst))),(0,A.val ((slr false 1 (V.int IntKind.u8)) (code0)))]) | (.inr s)=>(Ex.ret,[2],[(2,A.val (V.bool (false)))])) h ?_ ?_
 ·intro t h
  refine Cells.lit rfl rfl ?_
  refine Cells.lit rfl rfl ?_
  refine CallQ.o (fun r=>V.tup [(slr false 1 (slr false 1 Ag)) r.1,V.bool r.2]) (by rfl) h (fun r h=>Amb h) (fun r5 h=> ?_)
  refine Br.flip ?_
  refine Br.ob h (fun p6 h=> ?_) (fun p6 h=> ?_)
  ·refine Br.no ?_
   refine Br.no ?_
   refine CallQ.o V.bool (by rfl) h (fun r h=>Anm h) (fun r7 h=> ?_)
   refine Br.no ?_
   refine Br.no ?_
   refine Br.flip ?_
   refine Br.ob h (fun p8 h=> ?_) (fun p8 h=> ?_)
   ·cases h;exact ⟨rfl,rfl⟩
   cases h;exact ⟨rfl,rfl⟩
  refine Br.yes ?_
  refine Br.yes ?_
  refine Br.yes ?_
  refine Br.yes ?_
  refine Br.yes ?_
  cases h;exact ⟨rfl,rfl⟩
 rintro (⟨⟩ | ⟨⟩) h
 ·try dsimp only at h
  refine CutQ.o (fun t:(Unit ⊕ Unit)=>match t with | (.inl s)=>(Ex.ret,[2],[(2,A.val (V.bool (false)))]) | (.inr s)=>(Ex.normal,[6,5,4,3,0],[(6,A.val (V.bool (r4.snd))),(5,A.val ((slr false 1 (slr false 1 Ag)) (r4.fst))),(4,A.val ((rP true (Ae false)) (r3.snd))),(3,A.val ((rP true (Ae false)) (r3.fst))),(0,A.val ((slr false 1 (V.int IntKind.u8)) (code0)))])) h ?_ ?_
  ·intro t h
   refine Len.map ?_
   refine Br.od h (fun p10 h=> ?_) (fun p10 h=> ?_)
   ·refine CallQ.o Ag (by rfl) h (fun r h=>Akf h) (fun r11 h=> ?_)
    refine Len.map ?_
    refine Ask.o h fun p12 h=> ?_
    refine Len.map ?_
    refine Ask.o h fun p13 h=> ?_
    refine Elem.o (by first | omega | (simp [Aw] at * <;> omega)) ?_
    refine CutQ.o (fun t:(Unit ⊕ Unit)=>match t with | (.inl s)=>(Ex.normal,[9,6,5,4,3,0],[(9,A.val ((slr false 1 Ag) (nth r4.fst (r11.tmod (↑r4.fst.length:Int)).toNat))),(6,A.val (V.bool (r4.snd))),(5,A.val ((slr false 1 (slr false 1 Ag)) (r4.fst))),(4,A.val ((rP true (Ae false)) (r3.snd))),(3,A.val ((rP true (Ae false)) (r3.fst))),(0,A.val ((slr false 1 (V.int IntKind.u8)) (code0)))]) | (.inr s)=>(Ex.ret,[2],[(2,A.val (V.bool (false)))])) h ?_ ?_
    ·intro t h
     refine Cells.lit rfl rfl ?_
     refine Cells.lit rfl rfl ?_
     refine CallQ.o (fun r=>V.tup [V.bool r.1,V.bool r.2]) (by rfl) h (fun r h=>Aq0 h) (fun r14 h=> ?_)
     refine Br.flip ?_
     refine Br.ob h (fun p15 h=> ?_) (fun p15 h=> ?_)
     ·refine Br.no ?_
      refine Br.no ?_
      refine Br.flip ?_
      refine Br.ob h (fun p16 h=> ?_) (fun p16 h=> ?_)
      ·cases h;exact ⟨rfl,rfl⟩
      cases h;exact ⟨rfl,rfl⟩
     refine Br.yes ?_
     refine Br.yes ?_
     refine Br.yes ?_
     cases h;exact ⟨rfl,rfl⟩
    rintro (⟨⟩ | ⟨⟩) h
    ·try dsimp only at h
     refine BslQ.o Ag (Ao Int) (by exact fun _=>⟨rfl,rfl⟩) (by first | rfl | (simp only [Aa,V.fz,fzL,V.up,upL,Ab,Ac,Ad,slr,List.cons_append,List.nil_append];done) | simp [Aa,V.fz,fzL,V.up,upL,Ab,Ac,Ad,slr]) ?_
     refine LoopQ.o [13,12,9,6,5,4,3,0] (I2 code0 r3 r4 r11) (Nm code0 r3 r4 r11) h (fun s o h=>Yw s o h) (by rfl) (fun _=>rfl) ?_
     rintro q20_12 h
     try dsimp only at h
     refine CallQ.o Ag (by rfl) h (fun r h=>Akf h) (fun r21 h=> ?_)
     refine Len.map ?_
     refine Ask.o h fun p22 h=> ?_
     refine Len.map ?_
     refine Ask.o h fun p23 h=> ?_
     refine Elem.o (by first | omega | (simp [Aw] at * <;> omega)) ?_
     refine Len.map ?_
     refine Ask.o h fun p24 h=> ?_
     refine SetKids.one (fun _=>⟨rfl,rfl⟩) (nth (nth r4.fst (r11.tmod (↑r4.fst.length:Int)).toNat) (r21.tmod (↑(nth r4.fst (r11.tmod (↑r4.fst.length:Int)).toNat).length:Int)).toNat) (by rfl) (by first | omega | (simp [Aw] at * <;> omega)) ?_
     refine Cells.lit rfl rfl ?_
     refine Cells.lit rfl rfl ?_
     refine CallQ.rd (fun r=>V.tup [(slr true 1 Ag) r.1,V.bool r.2]) (by first | rfl | simp only [Aa,V.fz,fzL,Ab,slr] | simp [Aa,V.fz,fzL,V.up,upL,Ab,Ac,Ad,slr]) (fun _=>by simp [V.noFz,Cc,Bs]) h (fun r h=>Qx h) (fun r25 h=> ?_)
     refine CutQ.o (fun t:(Unit ⊕ Unit)=>match t with | (.inl s)=>(Ex.ret,[2],[(2,A.val (V.bool (false)))]) | (.inr s)=>(Ex.normal,[15,9,6,5,4,3,0],[(15,A.val ((slr true 1 Ag) (r25.fst))),(9,A.val ((slr false 1 Ag) (nth r4.fst (r11.tmod (↑r4.fst.length:Int)).toNat))),(6,A.val (V.bool (r4.snd))),(5,A.val ((slr false 1 (slr false 1 Ag)) (r4.fst))),(4,A.val ((rP true (Ae false)) (r3.snd))),(3,A.val ((rP true (Ae false)) (r3.fst))),(0,A.val ((slr false 1 (V.int IntKind.u8)) (code0)))])) h ?_ ?_
     ·intro t h
      refine Br.flip ?_
      refine Br.ob h (fun p26 h=> ?_) (fun p26 h=> ?_)
      ·refine Br.no ?_
       refine Len.map ?_
       refine Br.no ?_
       refine Br.no ?_
       refine Len.map ?_
       refine Br.no ?_
       refine Br.no ?_
       refine Br.on h (fun p27 h=> ?_) (fun p27 h=> ?_)
       ·cases h;exact ⟨rfl,rfl⟩
       cases h;exact ⟨rfl,rfl⟩
      refine Br.yes ?_
      refine Br.yes ?_
      refine Br.yes ?_
      refine Br.yes ?_
      refine Br.yes ?_
      refine Br.yes ?_
      cases h;exact ⟨rfl,rfl⟩
     rintro (⟨⟩ | ⟨⟩) h
     ·try dsimp only at h
      cases h;exact ⟨rfl,rfl⟩
     try dsimp only at h
     refine LoopQ.o [17,15,9,6,5,4,3,0] (I0 code0 r3 r4 r11 r25) (Np code0 r3 r4 r11 r25) h (fun s o h=>Yr s o h) (by rfl) (by rintro (_ | _)<;>rfl) ?_
     rintro (⟨⟩ | ⟨⟩) h
     ·try dsimp only at h
      cases h;exact ⟨rfl,rfl⟩
     try dsimp only at h
     cases h;exact ⟨rfl,rfl⟩
    try dsimp only at h
    cases h;exact ⟨rfl,rfl⟩
   cases h;exact ⟨rfl,rfl⟩
  rintro (⟨⟩ | ⟨⟩) h
  ·try dsimp only at h
   cases h;exact (by rfl)
  try dsimp only at h
  refine Cells.lit rfl rfl ?_
  refine Cells.lit rfl rfl ?_
  refine CallQ.o (fun r=>V.tup [(slr false 1 Ag) r.1,V.bool r.2]) (by rfl) h (fun r h=>Y6 h) (fun r39 h=> ?_)
  refine CutQ.o (fun t:(Unit ⊕ Unit)=>match t with | (.inl s)=>(Ex.normal,[6,5,4,3,0],[(6,A.val (V.bool (r4.snd))),(5,A.val ((slr false 1 (slr false 1 Ag)) (r4.fst))),(4,A.val ((rP true (Ae false)) (r3.snd))),(3,A.val ((rP true (Ae false)) (r3.fst))),(0,A.val ((slr false 1 (V.int IntKind.u8)) (code0)))]) | (.inr s)=>(Ex.ret,[2],[(2,A.val (V.bool (false)))])) h ?_ ?_
  ·intro t h
   refine Cells.lit rfl rfl ?_
   refine Cells.lit rfl rfl ?_
   refine CallQ.o (fun r=>V.tup [(slr false 1 Ag) r.1,V.bool r.2]) (by rfl) h (fun r h=>Ys h) (fun r40 h=> ?_)
   refine Br.flip ?_
   refine Br.ob h (fun p41 h=> ?_) (fun p41 h=> ?_)
   ·refine Br.no ?_
    refine Br.no ?_
    refine CallQ.o V.bool (by rfl) h (fun r h=>My h) (fun r42 h=> ?_)
    refine Br.no ?_
    refine Br.no ?_
    refine Br.flip ?_
    refine Br.ob h (fun p43 h=> ?_) (fun p43 h=> ?_)
    ·refine Br.no ?_
     refine Br.ob h (fun p44 h=> ?_) (fun p44 h=> ?_)
     ·refine Br.no ?_
      refine Br.yes ?_
      refine Br.no ?_
      refine Br.ob h (fun p45 h=> ?_) (fun p45 h=> ?_)
      ·refine Br.yes ?_
       refine Br.yes ?_
       refine CallQ.o V.bool (by rfl) h (fun r h=>Ake h) (fun r46 h=> ?_)
       refine Br.yes ?_
       refine Br.no ?_
       refine Br.yes ?_
       refine Br.no ?_
       refine Br.flip ?_
       refine Br.ob h (fun p47 h=> ?_) (fun p47 h=> ?_)
       ·cases h;exact ⟨rfl,rfl⟩
       cases h;exact ⟨rfl,rfl⟩
      refine Br.no ?_
      refine Br.no ?_
      refine Br.no ?_
      refine Br.no ?_
      refine Br.no ?_
      refine Br.no ?_
      refine Br.no ?_
      cases h;exact ⟨rfl,rfl⟩
     refine Br.no ?_
     refine Br.no ?_
     refine Br.no ?_
     refine Br.no ?_
     refine Br.no ?_
     refine Br.no ?_
     refine Br.no ?_
     refine Br.no ?_
     refine Br.no ?_
     refine Br.no ?_
     refine Br.no ?_
     cases h;exact ⟨rfl,rfl⟩
    refine Br.yes ?_
    refine Br.yes ?_
    refine Br.yes ?_
    refine Br.yes ?_
    refine Br.yes ?_
    refine Br.yes ?_
    cases h;exact ⟨rfl,rfl⟩
   refine Br.yes ?_
   refine Br.yes ?_
   refine Br.yes ?_
   refine Br.yes ?_
   refine Br.yes ?_
   refine Br.yes ?_
   refine Br.yes ?_
   refine Br.yes ?_
   refine Br.yes ?_
   refine Br.yes ?_
   refine Br.yes ?_
   cases h;exact ⟨rfl,rfl⟩
  rintro (⟨⟩ | ⟨⟩) h
  ·try dsimp only at h
   refine Cells.lit rfl rfl ?_
   refine Cells.lit rfl rfl ?_
   refine CallQ.o (fun r=>V.tup [(slr false 1 Ag) r.1,V.bool r.2]) (by rfl) h (fun r h=>Af0 h) (fun r49 h=> ?_)
   refine CutQ.o (fun t:(Unit ⊕ Unit)=>match t with | (.inl s)=>(Ex.normal,[0],[(0,A.val ((slr false 1 (V.int IntKind.u8)) (code0)))]) | (.inr s)=>(Ex.ret,[2],[(2,A.val (V.bool (false)))])) h ?_ ?_
   ·intro t h
    refine Cells.lit rfl rfl ?_
    refine Cells.lit rfl rfl ?_
    refine CallQ.o (fun r=>V.tup [(slr false 1 Ag) r.1,V.bool r.2]) (by rfl) h (fun r h=>Agk h) (fun r50 h=> ?_)
    refine Br.flip ?_
    refine Br.ob h (fun p51 h=> ?_) (fun p51 h=> ?_)
    ·refine Br.no ?_
     refine Br.no ?_
     refine CallQ.o V.bool (by rfl) h (fun r h=>My h) (fun r52 h=> ?_)
     refine Br.no ?_
     refine Br.no ?_
     refine Br.flip ?_
     refine Br.ob h (fun p53 h=> ?_) (fun p53 h=> ?_)
     ·refine Br.no ?_
      refine Br.ob h (fun p54 h=> ?_) (fun p54 h=> ?_)
      ·refine Br.no ?_
       refine Br.yes ?_
       refine Br.no ?_
       refine Br.ob h (fun p55 h=> ?_) (fun p55 h=> ?_)
       ·refine Br.yes ?_
        refine Br.yes ?_
        refine CallQ.o V.bool (by rfl) h (fun r h=>Ake h) (fun r56 h=> ?_)
        refine Br.yes ?_
        refine Br.no ?_
        refine Br.yes ?_
        refine Br.no ?_
        refine Br.flip ?_
        refine Br.ob h (fun p57 h=> ?_) (fun p57 h=> ?_)
        ·cases h;exact ⟨rfl,rfl⟩
        cases h;exact ⟨rfl,rfl⟩
       refine Br.no ?_
       refine Br.no ?_
       refine Br.no ?_
       refine Br.no ?_
       refine Br.no ?_
       refine Br.no ?_
       refine Br.no ?_
       cases h;exact ⟨rfl,rfl⟩
      refine Br.no ?_
      refine Br.no ?_
      refine Br.no ?_
      refine Br.no ?_
      refine Br.no ?_
      refine Br.no ?_
      refine Br.no ?_
      refine Br.no ?_
      refine Br.no ?_
      refine Br.no ?_
      refine Br.no ?_
      cases h;exact ⟨rfl,rfl⟩
     refine Br.yes ?_
     refine Br.yes ?_
     refine Br.yes ?_
     refine Br.yes ?_
     refine Br.yes ?_
     refine Br.yes ?_
     cases h;exact ⟨rfl,rfl⟩
    refine Br.yes ?_
    refine Br.yes ?_
    refine Br.yes ?_
    refine Br.yes ?_
    refine Br.yes ?_
    refine Br.yes ?_
    refine Br.yes ?_
    refine Br.yes ?_
    refine Br.yes ?_
    refine Br.yes ?_
    refine Br.yes ?_
    cases h;exact ⟨rfl,rfl⟩
   rintro (⟨⟩ | ⟨⟩) h
   ·try dsimp only at h
    refine CallQ.o (fun r=>V.tup [(Ae false) r.1,(Ae false) r.2.1,(slr false 1 Ag) r.2.2]) (by rfl) h (fun r h=>V3 h) (fun r59 h=> ?_)
    refine SetKids.lit rfl ?_
    refine SetKids.lit rfl ?_
    refine Cells.lit rfl rfl ?_
    refine Cells.lit rfl rfl ?_
    refine CallQ.o (fun r=>V.tup [(slr true 1 Ag) r.1,V.bool r.2]) (by rfl) h (fun r h=>Qx h) (fun r60 h=> ?_)
    refine Cells.lit rfl rfl ?_
    refine Cells.lit rfl rfl ?_
    refine CallQ.o (fun r=>V.tup [(slr true 1 Ag) r.1,V.bool r.2]) (by rfl) h (fun r h=>Abe h) (fun r61 h=> ?_)
    refine Br.ob h (fun p62 h=> ?_) (fun p62 h=> ?_)
    ·refine Br.yes ?_
     refine Br.yes ?_
     refine CallQ.rd V.bool (by first | rfl | simp only [V.fz,Ab,slr] | simp [Aa,V.fz,fzL,V.up,upL,Ab,Ac,Ad,slr]) (fun _=>rfl) h (fun r h=>My h) (fun r63 h=> ?_)
     refine Br.yes ?_
     cases h;exact (by rfl)
    refine Br.no ?_
    refine Br.no ?_
    refine Br.no ?_
    cases h;exact (by rfl)
   try dsimp only at h
   cases h;exact (by rfl)
  try dsimp only at h
  cases h;exact (by rfl)
 try dsimp only at h
 cases h;exact (by rfl)
end Go.Proofs.Ytmkgjnphianalaa.Ax
