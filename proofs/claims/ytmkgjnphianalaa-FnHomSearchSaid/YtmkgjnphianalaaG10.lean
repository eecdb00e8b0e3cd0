/-
 What the functions compute, as functions on plain data, and that the program does compute it; written by program.
-/
import Derived.Test.YtmkgjnphianalaaCode
import Derived.Test.YtmkgjnphianalaaG1
import Derived.Test.YtmkgjnphianalaaG2
import Derived.Test.YtmkgjnphianalaaG3
import Derived.Test.YtmkgjnphianalaaG4
import Derived.Test.YtmkgjnphianalaaG6
import Derived.Test.YtmkgjnphianalaaG7
import Derived.Test.YtmkgjnphianalaaG8
namespace Go.Proofs.Ytmkgjnphianalaa.Ax
open Go
set_option maxRecDepth 100000
set_option maxHeartbeats 4000000
noncomputable def D8 (n0:Int):(Int×(List Int)×Sl1Cur)→Option ((Int×(List Int)×Sl1Cur) ⊕ ((List Int)×Sl1Cur)):=fun (x6,x5,x53)=>
 if x6<n0 then
 ask (InI ((↑x5.length:Int)+(1:Int))) <|
 (Aq (x53) ((↑x5.length:Int)+(1:Int))).bind fun (r3,u4)=>
 ask (0≤(0:Int)∧(0:Int)≤r3∧r3≤((x5.length:Nat):Int)) <|
 ask ((Ao Int).length+(List.take (r3.toNat-Int.toNat (0:Int)) (List.drop (Int.toNat (0:Int)) x5)).length≤LIM) <|
 ask ((Ao Int++List.take (r3.toNat-Int.toNat (0:Int)) (List.drop (Int.toNat (0:Int)) x5)).length+([x6]).length≤LIM) <|
 ask (0≤r3∧r3≤(↑x5.length:Int)∧(↑x5.length:Int)≤((x5.length:Nat):Int)) <|
 ask ((Ao Int++List.take (r3.toNat-Int.toNat (0:Int)) (List.drop (Int.toNat (0:Int)) x5)++[x6]).length+(List.take ((↑x5.length:Int).toNat-r3.toNat) (List.drop r3.toNat x5)).length≤LIM) <|
 ask (InI (x6+(1:Int))) <|
 some (.inl (x6+(1:Int),Ao Int++List.take (r3.toNat-Int.toNat (0:Int)) (List.drop (Int.toNat (0:Int)) x5)++[x6]++List.take ((↑x5.length:Int).toNat-r3.toNat) (List.drop r3.toNat x5),u4))
 else
 some (.inr (x5,x53))
def Hx (n0:Int):(Int×(List Int)×Sl1Cur)→St:=fun s=>[(6,A.val (Ag s.1)),(5,A.val ((slr true 1 Ag) s.2.1)),(0,A.ref 53 []),(53,A.val ((rP true (Aj false)) s.2.2)),(1,A.val (Ag (n0)))]
def Nb (n0:Int):((List Int)×Sl1Cur)→Tgt
 | s=>((Ex.exit 0),[5,0,53,1],[(5,A.val ((slr true 1 Ag) s.1)),(0,A.ref 53 []),(53,A.val ((rP true (Aj false)) s.2)),(1,A.val (Ag (n0)))])
theorem Xm {n0:Int} (s:(Int×(List Int)×Sl1Cur)) (o:(Int×(List Int)×Sl1Cur) ⊕ ((List Int)×Sl1Cur)) (h:D8 n0 s=some o):vc Try.prog Mp (C1 [6,5,0,53,1] (Hx n0) (Nb n0) o) (Hx n0 s):=by
 obtain ⟨x6,x5,x53⟩:=s
 unfold D8 at h
 try dsimp only at h
 refine Br.od h (fun p1 h=> ?_) (fun p1 h=> ?_)
 ·refine Len.map ?_
  refine Ask.o h fun p2 h=> ?_
  refine CallQ.io Ag (rP true (Aj false)) (by rfl) rfl (fun _=>rfl) (fun _=>⟨rfl,rfl⟩) rfl h (fun r h=>A4 h) (fun r3 u4 h=> ?_)
  refine FrzQ.d (V.sl false (1:Nat) (List.map Ag x5)) (by first | (simp only [slr];done) | (simp [Ak,V.fz,Ab,slr];done) | (simp [Ak,V.fz,fzL,Ab,slr];done)) ?_
  refine BslQ.o Ag (Ao Int) (by exact fun _=>⟨rfl,rfl⟩) (by first | rfl | (simp only [Aa,V.fz,fzL,V.up,upL,Ab,Ac,Ad,slr,List.cons_append,List.nil_append];done) | simp [Aa,V.fz,fzL,V.up,upL,Ab,Ac,Ad,slr]) ?_
  refine SlcQ.o Ag h fun h=> ?_
  refine AppQ.o (m:=1) Ag (by exact fun _=>⟨rfl,rfl⟩) (Ao Int) (List.take (r3.toNat-Int.toNat (0:Int)) (List.drop (Int.toNat (0:Int)) x5)) (by rfl) (by rfl) h fun h=> ?_
  refine BslQ.o Ag [x6] (by exact fun _=>⟨rfl,rfl⟩) (by first | rfl | (simp only [Aa,V.fz,fzL,V.up,upL,Ab,Ac,Ad,slr,List.cons_append,List.nil_append];done) | simp [Aa,V.fz,fzL,V.up,upL,Ab,Ac,Ad,slr]) ?_
  refine NoOwn.o (fun _=>rfl) ?_
  refine AppQ.o (m:=1) Ag (by exact fun _=>⟨rfl,rfl⟩) (Ao Int++List.take (r3.toNat-Int.toNat (0:Int)) (List.drop (Int.toNat (0:Int)) x5)) ([x6]) (by rfl) (by rfl) h fun h=> ?_
  refine Len.map ?_
  refine SlcQ.o Ag h fun h=> ?_
  refine AppQ.o (m:=1) Ag (by exact fun _=>⟨rfl,rfl⟩) (Ao Int++List.take (r3.toNat-Int.toNat (0:Int)) (List.drop (Int.toNat (0:Int)) x5)++[x6]) (List.take ((↑x5.length:Int).toNat-r3.toNat) (List.drop r3.toNat x5)) (by rfl) (by rfl) h fun h=> ?_
  refine Ask.o h fun p5 h=> ?_
  cases h;exact ⟨rfl,rfl⟩
 cases h;exact ⟨rfl,rfl⟩
noncomputable def Ef (c0:Sl1Cur) (n0:Int):Option ((List Int)×Sl1Cur):=
 (Al (D8 n0) ((0:Int),Ao Int,c0)).bind fun (q6_5,q6_53)=>
 (Aq (q6_53) ((24:Int))).bind fun (r7,u8)=>
 if r7=(0:Int) then
 ask ((q6_5).length+([n0]).length≤LIM) <|
 some (q6_5++[n0],u8)
 else
 if r7=(1:Int) then
 if n0>(0:Int) then
 (Aq (u8) (n0)).bind fun (r12,u13)=>
 (Bi (u13) ([(0:Int),(-1:Int),n0])).bind fun (r14,u15)=>
 ask ((0:Int)≤r12∧r12<(↑q6_5.length:Int)) <|
 some (q6_5.set r12.toNat r14,u15)
 else
 some (q6_5,u8)
 else
 some (q6_5,u8)
theorem Abg {c0:Sl1Cur} {n0:Int} {v:((List Int)×Sl1Cur)} (h:Ef c0 n0=some v):H8 Try.prog Kq [(rP true (Aj false)) c0,Ag n0] ((slr true 1 Ag) v.1) 0 ((rP true (Aj false)) v.2):=by
 refine I7 Aa8 (Nat.le_of_ble_eq_true rfl) ?_
 unfold Ef at h
 refine BslQ.o Ag (Ao Int) (by exact fun _=>⟨rfl,rfl⟩) (by first | rfl | (simp only [Aa,V.fz,fzL,V.up,upL,Ab,Ac,Ad,slr,List.cons_append,List.nil_append];done) | simp [Aa,V.fz,fzL,V.up,upL,Ab,Ac,Ad,slr]) ?_
 refine LoopQ.o [6,5,0,53,1] (Hx n0) (Nb n0) h (fun s o h=>Xm s o h) (by rfl) (fun _=>rfl) ?_
 rintro ⟨q6_5,q6_53⟩ h
 try dsimp only at h
 refine CallQ.io Ag (rP true (Aj false)) (by rfl) rfl (fun _=>rfl) (fun _=>⟨rfl,rfl⟩) rfl h (fun r h=>A4 h) (fun r7 u8 h=> ?_)
 refine Br.oe h (fun p9 h=> ?_) (fun p9 h=> ?_)
 ·refine BslQ.o Ag [n0] (by exact fun _=>⟨rfl,rfl⟩) (by first | rfl | (simp only [Aa,V.fz,fzL,V.up,upL,Ab,Ac,Ad,slr,List.cons_append,List.nil_append];done) | simp [Aa,V.fz,fzL,V.up,upL,Ab,Ac,Ad,slr]) ?_
  refine NoOwn.o (fun _=>rfl) ?_
  refine AppQ.o (m:=1) Ag (by exact fun _=>⟨rfl,rfl⟩) (q6_5) ([n0]) (by rfl) (by rfl) h fun h=> ?_
  cases h;exact ⟨(by rfl),(by rfl)⟩
 refine Br.oe h (fun p10 h=> ?_) (fun p10 h=> ?_)
 ·refine Br.od h (fun p11 h=> ?_) (fun p11 h=> ?_)
  ·refine CallQ.io Ag (rP true (Aj false)) (by rfl) rfl (fun _=>rfl) (fun _=>⟨rfl,rfl⟩) rfl h (fun r h=>A4 h) (fun r12 u13 h=> ?_)
   refine BslQ.o Ag ([(0:Int),(-1:Int),n0]) (by exact fun _=>⟨rfl,rfl⟩) (by first | rfl | (simp only [Aa,V.fz,fzL,V.up,upL,Ab,Ac,Ad,slr,List.cons_append,List.nil_append];done) | simp [Aa,V.fz,fzL,V.up,upL,Ab,Ac,Ad,slr]) ?_
   refine CallQ.io Ag (rP true (Aj false)) (by first | rfl | (simp only [Aa,Ak,V.fz,fzL,Ab,Ac,slr];done) | simp [Aa,Ak,V.fz,fzL,V.up,upL,Ab,Ac,Ad,slr]) rfl (fun _=>rfl) (fun _=>⟨rfl,rfl⟩) rfl h (fun r h=>Bw h) (fun r14 u15 h=> ?_)
   refine Len.map ?_
   refine Ask.o h fun p16 h=> ?_
   refine SetKids.one (fun _=>⟨rfl,rfl⟩) (r14) (by rfl) (by first | omega | (simp [Aw] at * <;> omega)) ?_
   cases h;exact ⟨(by rfl),(by rfl)⟩
  cases h;exact ⟨(by rfl),(by rfl)⟩
 cases h;exact ⟨(by rfl),(by rfl)⟩
noncomputable def Gu (f0:(List Int)) (a1:(Unit ⊕ (SAlgebra))) (a2:(Option (List Int))):Option (Bool×(Option (List Int))):=
 match a1 with
 | (.inl _a1)=>(match a2 with
 | none=>((K9 (f0)).bind fun r1=>
 if (r1)=true then
 (Ea (f0)).bind fun r3=>
 some (false,some r3)
 else
 some (true,none))
 | some a2=>((K9 (f0)).bind fun r4=>
 if (r4)=true then
 (Ea (f0)).bind fun r6=>
 some (false,some r6)
 else
 some (true,some a2)))
 | (.inr a1)=>(match a2 with
 | none=>((Eu (f0) (a1)).bind fun r7=>
 if (r7)=true then
 (Ea (f0)).bind fun r9=>
 some (false,some r9)
 else
 some (true,none))
 | some a2=>((Eu (f0) (a1)).bind fun r10=>
 if (r10)=true then
 (Ea (f0)).bind fun r12=>
 some (false,some r12)
 else
 some (true,some a2)))
theorem Aeo {f0:(List Int)} {a1:(Unit ⊕ (SAlgebra))} {a2:(Option (List Int))} {v:(Bool×(Option (List Int)))} (h:Gu f0 a1 a2=some v):H8 Try.prog Gw [(slr false 1 Ag) f0,(rP false Eb) a1,(rP true (rOw 1 Ag)) a2] (V.bool v.1) 2 ((rP true (rOw 1 Ag)) v.2):=by
 refine I7 Adl (Nat.le_of_ble_eq_true rfl) ?_
 unfold Gu at h
 rcases a1 with a1 | a1
 ·try dsimp only at h
  rcases a2 with _ | a2
  ·try dsimp only at h
   refine CloV.f ?_
   refine CloQ.o V.bool (by rfl) (fun _=>by first | rfl | simp [Cx,V.noFz,Cc,Bs,NoFz.eq]) h (fun r h=>Abv h) (fun r1 h=> ?_)
   refine Br.ob h (fun p2 h=> ?_) (fun p2 h=> ?_)
   ·refine CallQ.o (slr true 1 Ag) (by rfl) h (fun r h=>Ic h) (fun r3 h=> ?_)
    refine SetKids.lit rfl ?_
    cases h;exact ⟨(by rfl),(by rfl)⟩
   cases h;exact ⟨(by rfl),(by rfl)⟩
  try dsimp only at h
  refine CloV.f ?_
  refine CloQ.o V.bool (by rfl) (fun _=>by first | rfl | simp [Cx,V.noFz,Cc,Bs,NoFz.eq]) h (fun r h=>Abv h) (fun r4 h=> ?_)
  refine Br.ob h (fun p5 h=> ?_) (fun p5 h=> ?_)
  ·refine CallQ.o (slr true 1 Ag) (by rfl) h (fun r h=>Ic h) (fun r6 h=> ?_)
   refine SetKids.lit rfl ?_
   cases h;exact ⟨(by rfl),(by rfl)⟩
  cases h;exact ⟨(by rfl),(by rfl)⟩
 try dsimp only at h
 rcases a2 with _ | a2
 ·try dsimp only at h
  refine CloV.f ?_
  refine CloQ.o V.bool (by rfl) (fun _=>by first | rfl | simp [Cx,V.noFz,Cc,Bs,NoFz.eq]) h (fun r h=>Rs h) (fun r7 h=> ?_)
  refine Br.ob h (fun p8 h=> ?_) (fun p8 h=> ?_)
  ·refine CallQ.o (slr true 1 Ag) (by rfl) h (fun r h=>Ic h) (fun r9 h=> ?_)
   refine SetKids.lit rfl ?_
   cases h;exact ⟨(by rfl),(by rfl)⟩
  cases h;exact ⟨(by rfl),(by rfl)⟩
 try dsimp only at h
 refine CloV.f ?_
 refine CloQ.o V.bool (by rfl) (fun _=>by first | rfl | simp [Cx,V.noFz,Cc,Bs,NoFz.eq]) h (fun r h=>Rs h) (fun r10 h=> ?_)
 refine Br.ob h (fun p11 h=> ?_) (fun p11 h=> ?_)
 ·refine CallQ.o (slr true 1 Ag) (by rfl) h (fun r h=>Ic h) (fun r12 h=> ?_)
  refine SetKids.lit rfl ?_
  cases h;exact ⟨(by rfl),(by rfl)⟩
 cases h;exact ⟨(by rfl),(by rfl)⟩
noncomputable def Pu (a0:SAlgebra) (sub0:(List Int)):Option Bool:=
 ask (InI (a0.Size-(1:Int))) <|
 (Im (sub0) ((0:Int)) (a0.Size-(1:Int))).bind fun r2=>
 if (r2)=true then
 (Jf (a0) (sub0)).bind fun r4=>
 (Iu (r4) (sub0)).bind fun r5=>
 some r5
 else
 some false
theorem Aua {a0:SAlgebra} {sub0:(List Int)} {v:Bool} (h:Pu a0 sub0=some v):Ret Try.prog Zx [(Ae false) a0,(slr false 1 Ag) sub0] (V.bool v):=by
 refine Bb Aty (Nat.le_of_ble_eq_true rfl) ?_
 unfold Pu at h
 refine Cells.lit rfl rfl ?_
 refine Ask.o h fun p1 h=> ?_
 refine CallQ.o V.bool (by rfl) h (fun r h=>Ai5 h) (fun r2 h=> ?_)
 refine Br.ob h (fun p3 h=> ?_) (fun p3 h=> ?_)
 ·refine Cells.lit rfl rfl ?_
  refine Br.yes ?_
  refine Br.yes ?_
  refine CallQ.o (slr true 1 Ag) (by rfl) h (fun r h=>Al2 h) (fun r4 h=> ?_)
  refine Br.yes ?_
  refine Br.yes ?_
  refine CallQ.rd V.bool (by first | rfl | simp only [V.fz,V.up,Ab,slr] | simp [Aa,V.fz,fzL,V.up,upL,Ab,Ac,Ad,slr]) (fun _=>rfl) h (fun r h=>Abt h) (fun r5 h=> ?_)
  refine Br.yes ?_
  cases h;exact (by rfl)
 refine Br.no ?_
 refine Br.no ?_
 refine Br.no ?_
 refine Br.no ?_
 refine Br.no ?_
 cases h;exact (by rfl)
noncomputable def Lj (a0:SAlgebra) (b0:SAlgebra):Option (Bool×Bool):=
 (D2 (a0)).bind fun r1=>
 if (r1)=true then
 (D2 (b0)).bind fun r3=>
 if (r3)=true then
 (Ir (a0)).bind fun r5=>
 (Ir (b0)).bind fun r6=>
 (Iq (r5) (r6)).bind fun r7=>
 some (r7,true)
 else
 some (false,false)
 else
 some (false,false)
theorem Ahu {a0:SAlgebra} {b0:SAlgebra} {v:(Bool×Bool)} (h:Lj a0 b0=some v):Ret Try.prog Qm [(Ae false) a0,(Ae false) b0] ((fun r=>V.tup [V.bool r.1,V.bool r.2]) v):=by
 refine Bb Aik (Nat.le_of_ble_eq_true rfl) ?_
 unfold Lj at h
 refine Cells.lit rfl rfl ?_
 refine CallQ.o V.bool (by rfl) h (fun r h=>Ki h) (fun r1 h=> ?_)
 refine Br.flip ?_
 refine Br.ob h (fun p2 h=> ?_) (fun p2 h=> ?_)
 ·refine Cells.lit rfl rfl ?_
  refine Br.no ?_
  refine CallQ.o V.bool (by rfl) h (fun r h=>Ki h) (fun r3 h=> ?_)
  refine Br.no ?_
  refine Br.no ?_
  refine Br.flip ?_
  refine Br.ob h (fun p4 h=> ?_) (fun p4 h=> ?_)
  ·refine Cells.lit rfl rfl ?_
   refine CallP.o (slr true 1 Ag) (by rfl) h (fun r h=>Abo h) (fun r5 h=> ?_)
   refine Cells.lit rfl rfl ?_
   refine CallQ.o (slr true 1 Ag) (by rfl) h (fun r h=>Abo h) (fun r6 h=> ?_)
   refine CallQ.rd V.bool (by first | rfl | simp only [V.fz,Ab,slr] | simp [Aa,V.fz,fzL,V.up,upL,Ab,Ac,Ad,slr]) (fun _=>rfl) h (fun r h=>Ai1 h) (fun r7 h=> ?_)
   cases h;exact (by rfl)
  cases h;exact (by rfl)
 refine Br.yes ?_
 refine Br.yes ?_
 refine Br.yes ?_
 refine Br.yes ?_
 cases h;exact (by rfl)
noncomputable def Jw (a0:SAlgebra) (b0:SAlgebra):Option ((List (List Int))×Bool):=
 (Gs (a0) (b0)).bind fun r1=>
 if (r1)=true then
 (Cq (a0) (b0) (false) (false) ((301:Int))).bind fun r3=>
 if (r3.snd)=true then
 if (↑r3.fst.length:Int)>(300:Int) then
 some (Ao (List Int),false)
 else
 some (r3.fst,true)
 else
 some (Ao (List Int),false)
 else
 some (Ao (List Int),false)
theorem Amb {a0:SAlgebra} {b0:SAlgebra} {v:((List (List Int))×Bool)} (h:Jw a0 b0=some v):Ret Try.prog Ry [(Ae false) a0,(Ae false) b0] ((fun r=>V.tup [(slr false 1 (slr false 1 Ag)) r.1,V.bool r.2]) v):=by
 refine M2 Akc (Nat.le_of_ble_eq_true rfl) ?_
 unfold Jw at h
 refine Cells.lit rfl rfl ?_
 refine Cells.lit rfl rfl ?_
 refine CallQ.o V.bool (by rfl) h (fun r h=>Q3 h) (fun r1 h=> ?_)
 refine Br.flip ?_
 refine Br.ob h (fun p2 h=> ?_) (fun p2 h=> ?_)
 ·refine Cells.lit rfl rfl ?_
  refine Cells.lit rfl rfl ?_
  refine CallQ.o (fun r=>V.tup [(slr false 1 (slr false 1 Ag)) r.1,V.bool r.2]) (by rfl) h (fun r h=>Uf h) (fun r3 h=> ?_)
  refine Br.flip ?_
  refine Br.ob h (fun p4 h=> ?_) (fun p4 h=> ?_)
  ·refine Br.no ?_
   refine Len.map ?_
   refine Br.no ?_
   refine Br.no ?_
   refine Br.od h (fun p5 h=> ?_) (fun p5 h=> ?_)
   ·refine BslQ.o (slr true 1 Ag) (Ao (List Int)) (by exact fun _=>⟨rfl,rfl⟩) (by first | rfl | (simp only [Aa,V.fz,fzL,V.up,upL,Ab,Ac,Ad,slr,List.cons_append,List.nil_append];done) | simp [Aa,V.fz,fzL,V.up,upL,Ab,Ac,Ad,slr]) ?_
    cases h;exact (by rfl)
   cases h;exact (by rfl)
  refine Br.yes ?_
  refine Br.yes ?_
  refine Br.yes ?_
  refine Br.yes ?_
  refine BslQ.o (slr true 1 Ag) (Ao (List Int)) (by exact fun _=>⟨rfl,rfl⟩) (by first | rfl | (simp only [Aa,V.fz,fzL,V.up,upL,Ab,Ac,Ad,slr,List.cons_append,List.nil_append];done) | simp [Aa,V.fz,fzL,V.up,upL,Ab,Ac,Ad,slr]) ?_
  cases h;exact (by rfl)
 refine BslQ.o (slr true 1 Ag) (Ao (List Int)) (by exact fun _=>⟨rfl,rfl⟩) (by first | rfl | (simp only [Aa,V.fz,fzL,V.up,upL,Ab,Ac,Ad,slr,List.cons_append,List.nil_append];done) | simp [Aa,V.fz,fzL,V.up,upL,Ab,Ac,Ad,slr]) ?_
 cases h;exact (by rfl)
noncomputable def Ci (_a0:SAlgebra) (b0:SAlgebra) (f0:List Int):Int→Option (Int ⊕ (Unit ⊕ Unit)):=fun x8=>
 if x8<(↑f0.length:Int) then
 ask ((0:Int)≤x8∧x8<(↑f0.length:Int)) <|
 ask (InI (b0.Size-(1:Int))) <|
 (Eg (nth f0 x8.toNat) ((-1:Int)) (b0.Size-(1:Int))).bind fun r8=>
 if (r8)=true then
 ask (InI (x8+(1:Int))) <|
 some (.inl (x8+(1:Int)))
 else
 some (.inr (.inl ()))
 else
 some (.inr (.inr ()))
def Id (a0:SAlgebra) (b0:SAlgebra) (f0:List Int):Int→St:=fun s=>[(8,A.val (Ag s)),(4,A.val ((rP true (Ae false)) (b0))),(3,A.val ((rP true (Ae false)) (a0))),(2,A.val ((slr false 1 Ag) (f0)))]
def M8 (a0:SAlgebra) (b0:SAlgebra) (f0:List Int):(Unit ⊕ Unit)→Tgt
 | (.inl _s)=>(Ex.ret,[7,6],[(7,A.val (V.bool (false))),(6,A.val ((slr true 1 Ag) (Ao Int)))])
 | (.inr _s)=>((Ex.exit 0),[4,3,2],[(4,A.val ((rP true (Ae false)) (b0))),(3,A.val ((rP true (Ae false)) (a0))),(2,A.val ((slr false 1 Ag) (f0)))])
theorem Xl {a0:SAlgebra} {b0:SAlgebra} {f0:List Int} (x8:Int) (o:Int ⊕ (Unit ⊕ Unit)) (h:Ci a0 b0 f0 x8=some o):vc Try.prog Ml (C1 [8,4,3,2] (Id a0 b0 f0) (M8 a0 b0 f0) o) (Id a0 b0 f0 x8):=by
 unfold Ci at h
 try dsimp only at h
 refine Len.map ?_
 refine Br.od h (fun p5 h=> ?_) (fun p5 h=> ?_)
 ·refine Len.map ?_
  refine Ask.o h fun p6 h=> ?_
  refine Elem.o (by first | omega | (simp [Aw] at * <;> omega)) ?_
  refine Cells.lit rfl rfl ?_
  refine Ask.o h fun p7 h=> ?_
  refine CallQ.o V.bool (by rfl) h (fun r h=>L6 h) (fun r8 h=> ?_)
  refine Br.flip ?_
  refine Br.ob h (fun p9 h=> ?_) (fun p9 h=> ?_)
  ·refine Ask.o h fun p10 h=> ?_
   cases h;exact ⟨rfl,rfl⟩
  refine BslQ.o Ag (Ao Int) (by exact fun _=>⟨rfl,rfl⟩) (by first | rfl | (simp only [Aa,V.fz,fzL,V.up,upL,Ab,Ac,Ad,slr,List.cons_append,List.nil_append];done) | simp [Aa,V.fz,fzL,V.up,upL,Ab,Ac,Ad,slr]) ?_
  cases h;exact ⟨rfl,rfl⟩
 cases h;exact ⟨rfl,rfl⟩
noncomputable def Fp (a0:SAlgebra) (b0:SAlgebra) (f0:(List Int)):Option ((List Int)×Bool):=
 (((Gs (a0) (b0)).bind fun r1=>
 if (r1)=true then
 if (↑f0.length:Int)≠a0.Size then
 some (.inl ())
 else
 some (.inr ())
 else
 some (.inl ()):Option (Unit ⊕ Unit))).bind fun t=>match t with
 | (.inl _)=>(some (Ao Int,false))
 | (.inr _)=>((Al (Ci a0 b0 f0) (0:Int)).bind fun t=>match t with
 | (.inl _)=>(some (Ao Int,false))
 | (.inr _)=>((Do (a0) (b0) (f0)).bind fun r12=>
 some r12))
theorem Abe {a0:SAlgebra} {b0:SAlgebra} {f0:(List Int)} {v:((List Int)×Bool)} (h:Fp a0 b0 f0=some v):Ret Try.prog Kr [(Ae false) a0,(Ae false) b0,(slr false 1 Ag) f0] ((fun r=>V.tup [(slr true 1 Ag) r.1,V.bool r.2]) v):=by
 refine Bb Abb (Nat.le_of_ble_eq_true rfl) ?_
 unfold Fp at h
 refine CutQ.o (fun t:(Unit ⊕ Unit)=>match t with | (.inl s)=>(Ex.ret,[7,6],[(7,A.val (V.bool (false))),(6,A.val ((slr true 1 Ag) (Ao Int)))]) | (.inr s)=>(Ex.normal,[4,3,2],[(4,A.val ((rP true (Ae false)) (b0))),(3,A.val ((rP true (Ae false)) (a0))),(2,A.val ((slr false 1 Ag) (f0)))])) h ?_ ?_
 ·intro t h
  refine Cells.lit rfl rfl ?_
  refine Cells.lit rfl rfl ?_
  refine CallQ.o V.bool (by rfl) h (fun r h=>Q3 h) (fun r1 h=> ?_)
  refine Br.flip ?_
  refine Br.ob h (fun p2 h=> ?_) (fun p2 h=> ?_)
  ·refine Br.no ?_
   refine Len.map ?_
   refine Br.no ?_
   refine Br.no ?_
   refine Cells.lit rfl rfl ?_
   refine Br.no ?_
   refine Br.no ?_
   refine Br.on h (fun p3 h=> ?_) (fun p3 h=> ?_)
   ·refine BslQ.o Ag (Ao Int) (by exact fun _=>⟨rfl,rfl⟩) (by first | rfl | (simp only [Aa,V.fz,fzL,V.up,upL,Ab,Ac,Ad,slr,List.cons_append,List.nil_append];done) | simp [Aa,V.fz,fzL,V.up,upL,Ab,Ac,Ad,slr]) ?_
    cases h;exact ⟨rfl,rfl⟩
   cases h;exact ⟨rfl,rfl⟩
  refine Br.yes ?_
  refine Br.yes ?_
  refine Br.yes ?_
  refine Br.yes ?_
  refine Br.yes ?_
  refine Br.yes ?_
  refine BslQ.o Ag (Ao Int) (by exact fun _=>⟨rfl,rfl⟩) (by first | rfl | (simp only [Aa,V.fz,fzL,V.up,upL,Ab,Ac,Ad,slr,List.cons_append,List.nil_append];done) | simp [Aa,V.fz,fzL,V.up,upL,Ab,Ac,Ad,slr]) ?_
  cases h;exact ⟨rfl,rfl⟩
 rintro (⟨⟩ | ⟨⟩) h
 ·try dsimp only at h
  cases h;exact (by rfl)
 try dsimp only at h
 refine LoopQ.o [8,4,3,2] (Id a0 b0 f0) (M8 a0 b0 f0) h (fun s o h=>Xl s o h) (by rfl) (by rintro (_ | _)<;>rfl) ?_
 rintro (⟨⟩ | ⟨⟩) h
 ·try dsimp only at h
  cases h;exact (by rfl)
 try dsimp only at h
 refine Cells.lit rfl rfl ?_
 refine Cells.lit rfl rfl ?_
 refine CallQ.o (fun r=>V.tup [(slr true 1 Ag) r.1,V.bool r.2]) (by rfl) h (fun r h=>Sp h) (fun r12 h=> ?_)
 cases h;exact (by rfl)
noncomputable def Kg (a0:SAlgebra) (b0:SAlgebra) (into0:Bool) (onto0:Bool):Option ((List Int)×Bool):=
 (Cq (a0) (b0) (into0) (onto0) ((1:Int))).bind fun r1=>
 if (r1.snd)=true then
 if (↑r1.fst.length:Int)=(0:Int) then
 some (Ao Int,false)
 else
 ask ((0:Int)≤(0:Int)∧(0:Int)<(↑r1.fst.length:Int)) <|
 some (nth r1.fst (Int.toNat (0:Int)),true)
 else
 some (Ao Int,false)
theorem Adp {a0:SAlgebra} {b0:SAlgebra} {into0:Bool} {onto0:Bool} {v:((List Int)×Bool)} (h:Kg a0 b0 into0 onto0=some v):Ret Try.prog Rb [(Ae false) a0,(Ae false) b0,V.bool into0,V.bool onto0] ((fun r=>V.tup [(slr false 1 Ag) r.1,V.bool r.2]) v):=by
 refine M2 Asm (Nat.le_of_ble_eq_true rfl) ?_
 unfold Kg at h
 refine Cells.lit rfl rfl ?_
 refine Cells.lit rfl rfl ?_
 refine CallQ.o (fun r=>V.tup [(slr false 1 (slr false 1 Ag)) r.1,V.bool r.2]) (by rfl) h (fun r h=>Uf h) (fun r1 h=> ?_)
 refine Br.flip ?_
 refine Br.ob h (fun p2 h=> ?_) (fun p2 h=> ?_)
 ·refine Br.no ?_
  refine Len.map ?_
  refine Br.no ?_
  refine Br.no ?_
  refine Br.oe h (fun p3 h=> ?_) (fun p3 h=> ?_)
  ·refine BslQ.o Ag (Ao Int) (by exact fun _=>⟨rfl,rfl⟩) (by first | rfl | (simp only [Aa,V.fz,fzL,V.up,upL,Ab,Ac,Ad,slr,List.cons_append,List.nil_append];done) | simp [Aa,V.fz,fzL,V.up,upL,Ab,Ac,Ad,slr]) ?_
   cases h;exact (by rfl)
  refine Len.map ?_
  refine Ask.o h fun p4 h=> ?_
  refine Elem.o (by first | omega | (simp [Aw] at * <;> omega)) ?_
  cases h;exact (by rfl)
 refine Br.yes ?_
 refine Br.yes ?_
 refine Br.yes ?_
 refine Br.yes ?_
 refine BslQ.o Ag (Ao Int) (by exact fun _=>⟨rfl,rfl⟩) (by first | rfl | (simp only [Aa,V.fz,fzL,V.up,upL,Ab,Ac,Ad,slr,List.cons_append,List.nil_append];done) | simp [Aa,V.fz,fzL,V.up,upL,Ab,Ac,Ad,slr]) ?_
 cases h;exact (by rfl)
end Go.Proofs.Ytmkgjnphianalaa.Ax
