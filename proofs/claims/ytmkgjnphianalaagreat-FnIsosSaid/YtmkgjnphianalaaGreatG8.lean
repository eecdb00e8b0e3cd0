/-
 What the functions compute, as functions on plain data, and that the program does compute it; written by program.
-/
import Derived.Test.YtmkgjnphianalaaGreatCode
import Derived.Test.YtmkgjnphianalaaGreatG2
import Derived.Test.YtmkgjnphianalaaGreatG3
import Derived.Test.YtmkgjnphianalaaGreatG4
import Derived.Test.YtmkgjnphianalaaGreatG5
import Derived.Test.YtmkgjnphianalaaGreatG6
import Derived.Test.YtmkgjnphianalaaGreatG7
namespace Go.Proofs.YtmkgjnphianalaaGreat.Ax
open Go
set_option maxRecDepth 100000
set_option maxHeartbeats 4000000
noncomputable def Dn (a0:SAlgebra):Int→Option (Int ⊕ (Unit ⊕ Unit)):=fun x22=>
 if x22<(↑a0.Ops.length:Int) then
 ask ((0:Int)≤x22∧x22<(↑a0.Ops.length:Int)) <|
 (Qy (nth a0.Ops x22.toNat) (a0.Size)).bind fun r7=>
 if (r7)=true then
 ask (InI (x22+(1:Int))) <|
 some (.inl (x22+(1:Int)))
 else
 some (.inr (.inl ()))
 else
 some (.inr (.inr ()))
def Lm (a0:SAlgebra):Int→St:=fun s=>[(22,A.val (Ag s)),(21,A.val (Ag ((↑a0.Ops.length:Int)))),(20,A.val ((slr false 2 (Aw false)) (a0.Ops))),(1,A.val ((rP true (Ae false)) (a0)))]
def So (_a0:SAlgebra):(Unit ⊕ Unit)→Tgt
 | (.inl _s)=>(Ex.ret,[2],[(2,A.val (V.bool (false)))])
 | (.inr _s)=>((Ex.exit 0),[],[])
theorem Adt {a0:SAlgebra} (x22:Int) (o:Int ⊕ (Unit ⊕ Unit)) (h:Dn a0 x22=some o):vc Tryz.prog Sn (Cr [22,21,20,1] (Lm a0) (So a0) o) (Lm a0 x22):=by
 unfold Dn at h
 try dsimp only at h
 refine Br.od h (fun p5 h=> ?_) (fun p5 h=> ?_)
 ·refine Len.map<|Ask.o h fun p6 h=>Elem.o (by first | omega | (simp [Aq] at * <;> omega))<|SetKids.lit rfl<|Cells.lit rfl rfl<|Cells.lit rfl rfl<|CallQ.o V.bool (by rfl) h (fun r h=>Ays h) (fun r7 h=> ?_)
  refine Br.flip<|Br.ob h (fun p8 h=> ?_) (fun p8 h=> ?_)
  ·refine Ask.o h fun p9 h=> ?_
   cases h;exact ⟨rfl,rfl⟩
  cases h;exact ⟨rfl,rfl⟩
 cases h;exact ⟨rfl,rfl⟩
noncomputable def C2 (a0:SAlgebra):Option Bool:=
 ((if a0.Size<(1:Int) then
 some (.inl ())
 else
 if a0.Size>(8:Int) then
 some (.inl ())
 else
 if (↑a0.Ops.length:Int)>(4:Int) then
 some (.inl ())
 else
 some (.inr ()):Option (Unit ⊕ Unit))).bind fun t=>match t with
 | (.inl _)=>(some false)
 | (.inr _)=>((Aj (Dn a0) (0:Int)).bind fun t=>match t with
 | (.inl _)=>(some false)
 | (.inr _)=>(some true))
theorem Gm {a0:SAlgebra} {v:Bool} (h:C2 a0=some v):Ret Tryz.prog D4 [(Ae false) a0] (V.bool v):=by
 refine A6 Ajs (Nat.le_of_ble_eq_true rfl) ?_
 unfold C2 at h
 refine CutQ.o (fun t:(Unit ⊕ Unit)=>match t with | (.inl s)=>(Ex.ret,[2],[(2,A.val (V.bool (false)))]) | (.inr s)=>(Ex.normal,[1],[(1,A.val ((rP true (Ae false)) (a0)))])) h ?_ ?_
 ·intro t h
  refine Cells.lit rfl rfl<|Br.od h (fun p1 h=> ?_) (fun p1 h=> ?_)
  ·refine Br.yes<|Br.yes<|Br.yes<|Br.yes<|Br.yes<|Br.yes<|Br.yes<|Br.yes<|Br.yes ?_
   cases h;exact ⟨rfl,rfl⟩
  refine Br.no<|Cells.lit rfl rfl<|Br.no<|Br.no<|Br.od h (fun p2 h=> ?_) (fun p2 h=> ?_)
  ·refine Br.yes<|Br.yes<|Br.yes<|Br.yes<|Br.yes ?_
   cases h;exact ⟨rfl,rfl⟩
  refine Br.no<|Cells.lit rfl rfl<|Br.no<|Len.map<|Br.no<|Br.no<|Br.od h (fun p3 h=> ?_) (fun p3 h=> ?_)
  ·cases h;exact ⟨rfl,rfl⟩
  cases h;exact ⟨rfl,rfl⟩
 rintro (⟨⟩ | ⟨⟩) h
 ·try dsimp only at h
  cases h;exact (by rfl)
 try dsimp only at h
 refine Cells.lit rfl rfl<|Len.map<|LoopQ.o [22,21,20,1] (Lm a0) (So a0) h (fun s o h=>Adt s o h) (by rfl) (by rintro (_ | _)<;>rfl) ?_
 rintro (⟨⟩ | ⟨⟩) h
 ·try dsimp only at h
  cases h;exact (by rfl)
 try dsimp only at h
 cases h;exact (by rfl)
noncomputable def Og (a0:SAlgebra) (b0:SAlgebra) (f0:(List Int)):Option Bool:=
 (Nw (a0) (b0) (f0)).bind fun r1=>
 if (r1)=true then
 (Ib (a0) (b0) (f0)).bind fun r3=>
 some (decide (r3.fst<(0:Int)))
 else
 some false
theorem At5 {a0:SAlgebra} {b0:SAlgebra} {f0:(List Int)} {v:Bool} (h:Og a0 b0 f0=some v):Ret Tryz.prog Zu [(Ae false) a0,(Ae false) b0,(slr false 1 Ag) f0] (V.bool v):=by
 refine A6 Av4 (Nat.le_of_ble_eq_true rfl) ?_
 unfold Og at h
 refine Cells.lit rfl rfl<|Cells.lit rfl rfl<|CallQ.o V.bool (by rfl) h (fun r h=>Avp h) (fun r1 h=> ?_)
 refine Br.flip<|Br.ob h (fun p2 h=> ?_) (fun p2 h=> ?_)
 ·refine Cells.lit rfl rfl<|Cells.lit rfl rfl<|CallQ.o (fun r=>V.tup [Ag r.1,Ag r.2]) (by rfl) h (fun r h=>Anf h) (fun r3 h=> ?_)
  cases h;exact (by rfl)
 cases h;exact (by rfl)
noncomputable def E2 (a0:SAlgebra):Int→Option (Int ⊕ (Unit ⊕ Unit)):=fun x3=>
 if x3<(↑a0.Ops.length:Int) then
 ask ((0:Int)≤x3∧x3<(↑a0.Ops.length:Int)) <|
 (Rd (a0.Size) (nth a0.Ops x3.toNat)).bind fun r7=>
 if (r7)=true then
 ask (InI (x3+(1:Int))) <|
 some (.inl (x3+(1:Int)))
 else
 some (.inr (.inl ()))
 else
 some (.inr (.inr ()))
def P8 (a0:SAlgebra):Int→St:=fun s=>[(3,A.val (Ag s)),(1,A.val ((rP true (Ae false)) (a0)))]
def Y6 (_a0:SAlgebra):(Unit ⊕ Unit)→Tgt
 | (.inl _s)=>(Ex.ret,[2],[(2,A.val (V.bool (false)))])
 | (.inr _s)=>((Ex.exit 0),[],[])
theorem Ah4 {a0:SAlgebra} (x3:Int) (o:Int ⊕ (Unit ⊕ Unit)) (h:E2 a0 x3=some o):vc Tryz.prog Yj (Cr [3,1] (P8 a0) (Y6 a0) o) (P8 a0 x3):=by
 unfold E2 at h
 try dsimp only at h
 refine Cells.lit rfl rfl<|Len.map<|Br.od h (fun p5 h=> ?_) (fun p5 h=> ?_)
 ·refine Cells.lit rfl rfl<|Cells.lit rfl rfl<|Len.map<|Ask.o h fun p6 h=>Elem.o (by first | omega | (simp [Aq] at * <;> omega))<|CallQ.o V.bool (by rfl) h (fun r h=>Ayg h) (fun r7 h=> ?_)
  refine Br.flip<|Br.ob h (fun p8 h=> ?_) (fun p8 h=> ?_)
  ·refine Ask.o h fun p9 h=> ?_
   cases h;exact ⟨rfl,rfl⟩
  cases h;exact ⟨rfl,rfl⟩
 cases h;exact ⟨rfl,rfl⟩
noncomputable def Ef (a0:SAlgebra):Option Bool:=
 (((Ht (a0.Size) ((1:Int)) ((8:Int))).bind fun r1=>
 if (r1)=true then
 if (↑a0.Ops.length:Int)>(4:Int) then
 some (.inl ())
 else
 some (.inr ())
 else
 some (.inl ()):Option (Unit ⊕ Unit))).bind fun t=>match t with
 | (.inl _)=>(some false)
 | (.inr _)=>((Aj (E2 a0) (0:Int)).bind fun t=>match t with
 | (.inl _)=>(some false)
 | (.inr _)=>(some true))
theorem Jv {a0:SAlgebra} {v:Bool} (h:Ef a0=some v):Ret Tryz.prog Gh [(Ae false) a0] (V.bool v):=by
 refine A6 Arx (Nat.le_of_ble_eq_true rfl) ?_
 unfold Ef at h
 refine CutQ.o (fun t:(Unit ⊕ Unit)=>match t with | (.inl s)=>(Ex.ret,[2],[(2,A.val (V.bool (false)))]) | (.inr s)=>(Ex.normal,[1],[(1,A.val ((rP true (Ae false)) (a0)))])) h ?_ ?_
 ·intro t h
  refine Cells.lit rfl rfl<|CallQ.o V.bool (by rfl) h (fun r h=>Ro h) (fun r1 h=> ?_)
  refine Br.flip<|Br.ob h (fun p2 h=> ?_) (fun p2 h=> ?_)
  ·refine Br.no<|Cells.lit rfl rfl<|Br.no<|Len.map<|Br.no<|Br.no<|Br.od h (fun p3 h=> ?_) (fun p3 h=> ?_)
   ·cases h;exact ⟨rfl,rfl⟩
   cases h;exact ⟨rfl,rfl⟩
  refine Br.yes<|Br.yes<|Br.yes<|Br.yes<|Br.yes ?_
  cases h;exact ⟨rfl,rfl⟩
 rintro (⟨⟩ | ⟨⟩) h
 ·try dsimp only at h
  cases h;exact (by rfl)
 try dsimp only at h
 refine LoopQ.o [3,1] (P8 a0) (Y6 a0) h (fun s o h=>Ah4 s o h) (by rfl) (by rintro (_ | _)<;>rfl) ?_
 rintro (⟨⟩ | ⟨⟩) h
 ·try dsimp only at h
  cases h;exact (by rfl)
 try dsimp only at h
 cases h;exact (by rfl)
noncomputable def Cq (_s0:Sl7Search) (f0:List Int):Int→Option (Int ⊕ Int):=fun x4=>
 if x4<(↑f0.length:Int) then
 ask ((0:Int)≤x4∧x4<(↑f0.length:Int)) <|
 if nth f0 x4.toNat≥(0:Int) then
 ask (InI (x4+(1:Int))) <|
 some (.inl (x4+(1:Int)))
 else
 some (.inr x4)
 else
 some (.inr x4)
def Iq (s0:Sl7Search) (f0:List Int):Int→St:=fun s=>[(4,A.val (Ag s)),(0,A.ref 124 []),(124,A.val ((rP true (Bc)) (s0))),(1,A.val ((slr false 1 Ag) (f0)))]
def Nm (s0:Sl7Search) (f0:List Int):Int→Tgt
 | s=>((Ex.exit 0),[4,0,124,1],[(4,A.val (Ag s)),(0,A.ref 124 []),(124,A.val ((rP true (Bc)) (s0))),(1,A.val ((slr false 1 Ag) (f0)))])
theorem Yw {s0:Sl7Search} {f0:List Int} (x4:Int) (o:Int ⊕ Int) (h:Cq s0 f0 x4=some o):vc Tryz.prog Nf (Cr [4,0,124,1] (Iq s0 f0) (Nm s0 f0) o) (Iq s0 f0 x4):=by
 unfold Cq at h
 try dsimp only at h
 refine Len.map<|Br.od h (fun p1 h=> ?_) (fun p1 h=> ?_)
 ·refine Br.yes<|Br.yes<|Len.map<|Ask.o h fun p2 h=>Elem.o (by first | omega | (simp [Aq] at * <;> omega))<|Br.yes<|Br.yes<|Br.yes<|Br.od h (fun p3 h=> ?_) (fun p3 h=> ?_)
  ·refine Ask.o h fun p4 h=> ?_
   cases h;exact ⟨rfl,rfl⟩
  cases h;exact ⟨rfl,rfl⟩
 refine Br.no<|Br.no<|Br.no<|Br.no<|Br.no<|Br.no ?_
 cases h;exact ⟨rfl,rfl⟩
noncomputable def A4 (self:Sl7Search→List Int→Option (Unit×Sl7Search)) (f0:List Int) (q5_4:Int):(Int×Sl7Search)→Option ((Int×Sl7Search) ⊕ (Sl7Search ⊕ Sl7Search)):=fun (x5,x124)=>
 ((if x5<x124.b.Size then
 if (↑x124.found.length:Int)<x124.most then
 if x124.tries≤(5000:Int) then
 some (.inl ())
 else
 some (.inr ())
 else
 some (.inr ())
 else
 some (.inr ()):Option (Unit ⊕ Unit))).bind fun t=>match t with
 | (.inl _)=>(ask (InI (x124.tries+(1:Int))) <|
 if x124.tries+(1:Int)>(5000:Int) then
 some (.inr (.inl ({ a:=x124.a,b:=x124.b,into:=x124.into,onto:=x124.onto,most:=x124.most,tries:=x124.tries+(1:Int),found:=x124.found })))
 else
 (Iz (f0)).bind fun r17=>
 ask ((0:Int)≤q5_4∧q5_4<(↑r17.length:Int)) <|
 (Gv (x124.a) (x124.b) (r17.set q5_4.toNat x5)).bind fun r19=>
 if (r19.snd)=true then
 if (x124.into)=true then
 (Hv (r19.fst)).bind fun r22=>
 if (r22)=true then
 (self ({ a:=x124.a,b:=x124.b,into:=x124.into,onto:=x124.onto,most:=x124.most,tries:=x124.tries+(1:Int),found:=x124.found }) (r19.fst)).bind fun (_r24,u25)=>
 ask (InI (x5+(1:Int))) <|
 some (.inl (x5+(1:Int),u25))
 else
 ask (InI (x5+(1:Int))) <|
 some (.inl (x5+(1:Int),{ a:=x124.a,b:=x124.b,into:=x124.into,onto:=x124.onto,most:=x124.most,tries:=x124.tries+(1:Int),found:=x124.found }))
 else
 (self ({ a:=x124.a,b:=x124.b,into:=x124.into,onto:=x124.onto,most:=x124.most,tries:=x124.tries+(1:Int),found:=x124.found }) (r19.fst)).bind fun (_r28,u29)=>
 ask (InI (x5+(1:Int))) <|
 some (.inl (x5+(1:Int),u29))
 else
 ask (InI (x5+(1:Int))) <|
 some (.inl (x5+(1:Int),{ a:=x124.a,b:=x124.b,into:=x124.into,onto:=x124.onto,most:=x124.most,tries:=x124.tries+(1:Int),found:=x124.found })))
 | (.inr _)=>(some (.inr (.inr x124)))
def Io (f0:List Int) (q5_4:Int):(Int×Sl7Search)→St:=fun s=>[(5,A.val (Ag s.1)),(4,A.val (Ag (q5_4))),(0,A.ref 124 []),(124,A.val ((rP true (Bc)) s.2)),(1,A.val ((slr false 1 Ag) (f0)))]
def M8 (_f0:List Int) (_q5_4:Int):(Sl7Search ⊕ Sl7Search)→Tgt
 | (.inl s)=>(Ex.ret,[124],[(124,A.val ((rP true (Bc)) s))])
 | (.inr s)=>((Ex.exit 2),[124],[(124,A.val ((rP true (Bc)) s))])
theorem Y5 {self:Sl7Search→List Int→Option (Unit×Sl7Search)} {f0:List Int} {q5_4:Int} (hself : ∀ {w_0 w_1 v},self w_0 w_1=some v→I9 Tryz.prog Ct [(rP true (Bc)) w_0,(slr false 1 Ag) w_1] ((fun _r=>V.tup []) v.1) 0 ((rP true (Bc)) v.2)) (s:(Int×Sl7Search)) (o:(Int×Sl7Search) ⊕ (Sl7Search ⊕ Sl7Search)) (h:A4 self f0 q5_4 s=some o):vc Tryz.prog Nd (Cr [5,4,0,124,1] (Io f0 q5_4) (M8 f0 q5_4) o) (Io f0 q5_4 s):=by
 obtain ⟨x5,x124⟩:=s
 unfold A4 at h
 try dsimp only at h
 refine CutQ.o (fun t:(Unit ⊕ Unit)=>match t with | (.inl s)=>(Ex.normal,[5,4,0,124,1],[(5,A.val (Ag (x5))),(4,A.val (Ag (q5_4))),(0,A.ref 124 []),(124,A.val ((rP true (Bc)) (x124))),(1,A.val ((slr false 1 Ag) (f0)))]) | (.inr s)=>((Ex.exit 2),[124],[(124,A.val ((rP true (Bc)) (x124)))])) h ?_ ?_
 ·intro t h
  refine Cells.lit rfl rfl<|Br.od h (fun p11 h=> ?_) (fun p11 h=> ?_)
  ·refine Br.yes<|Br.yes<|Br.yes<|Cells.lit rfl rfl<|Br.yes<|Kid.lit rfl rfl<|Len.map<|Br.yes<|Br.yes<|Br.yes<|Br.yes<|Cells.lit rfl rfl<|Br.yes<|Br.yes<|Br.od h (fun p12 h=> ?_) (fun p12 h=> ?_)
   ·refine Br.yes<|Br.yes<|Br.yes<|Cells.lit rfl rfl<|Br.yes<|Br.yes<|Br.od h (fun p13 h=> ?_) (fun p13 h=> ?_)
    ·cases h;exact ⟨rfl,rfl⟩
    cases h;exact ⟨rfl,rfl⟩
   refine Br.no<|Br.no<|Br.no<|Br.no<|Br.no<|Br.no ?_
   cases h;exact ⟨rfl,rfl⟩
  refine Br.no<|Br.no<|Br.no<|Br.no<|Br.no<|Br.no<|Br.no<|Br.no<|Br.no<|Br.no<|Br.no<|Br.no<|Br.no<|Br.no<|Br.no<|Br.no<|Br.no ?_
  cases h;exact ⟨rfl,rfl⟩
 rintro (⟨⟩ | ⟨⟩) h
 ·try dsimp only at h
  refine Cells.lit rfl rfl<|Ask.o h fun p15 h=>SetKids.lit rfl<|Cells.lit rfl rfl<|Br.od h (fun p16 h=> ?_) (fun p16 h=> ?_)
  ·cases h;exact ⟨rfl,rfl⟩
  refine CallQ.o (slr true 1 Ag) (by rfl) h (fun r h=>Ze h) (fun r17 h=> ?_)
  refine Len.map<|Ask.o h fun p18 h=>SetKids.one (fun _=>⟨rfl,rfl⟩) (x5) (by rfl) (by first | omega | (simp [Aq] at * <;> omega))<|Cells.lit rfl rfl<|Cells.lit rfl rfl<|CallP.rd (fun r=>V.tup [(slr true 1 Ag) r.1,V.bool r.2]) (by first | rfl | simp only [Aa,V.fz,fzL,Ab,slr] | simp [Aa,V.fz,fzL,V.up,upL,Ab,Ac,Ad,slr]) (fun _=>by simp [V.noFz,Ch,Bs]) h (fun r h=>Ab8 h) (fun r19 h=> ?_)
  refine FrzQ.d (V.sl false (1:Nat) (List.map Ag r19.fst)) (by first | (simp only [slr];done) | (simp [Ak,V.fz,Ab,slr];done) | (simp [Ak,V.fz,fzL,Ab,slr];done))<|Br.ob h (fun p20 h=> ?_) (fun p20 h=> ?_)
  ·refine Br.yes<|Br.yes<|Br.yes<|Cells.lit rfl rfl<|Br.yes<|Br.yes<|Br.flip<|Br.ob h (fun p21 h=> ?_) (fun p21 h=> ?_)
   ·refine Br.no<|CallQ.o V.bool (by rfl) h (fun r h=>Ad5 h) (fun r22 h=> ?_)
    refine Br.yes<|Br.no<|Br.yes<|Br.ob h (fun p23 h=> ?_) (fun p23 h=> ?_)
    ·refine CallQ.io (fun r=>V.tup []) (rP true (Bc)) (by rfl) rfl (fun _=>rfl) (fun _=>⟨rfl,rfl⟩) rfl h (fun r h=>hself h) (fun r24 u25 h=> ?_)
     refine Ask.o h fun p26 h=> ?_
     cases h;exact ⟨rfl,rfl⟩
    refine Ask.o h fun p27 h=> ?_
    cases h;exact ⟨rfl,rfl⟩
   refine Br.yes<|Br.yes<|Br.yes<|Br.yes<|Br.yes<|CallQ.io (fun r=>V.tup []) (rP true (Bc)) (by rfl) rfl (fun _=>rfl) (fun _=>⟨rfl,rfl⟩) rfl h (fun r h=>hself h) (fun r28 u29 h=> ?_)
   refine Ask.o h fun p30 h=> ?_
   cases h;exact ⟨rfl,rfl⟩
  refine Br.no<|Br.no<|Br.no<|Br.no<|Br.no<|Br.no<|Br.no<|Br.no<|Ask.o h fun p31 h=> ?_
  cases h;exact ⟨rfl,rfl⟩
 try dsimp only at h
 cases h;exact ⟨rfl,rfl⟩
noncomputable def Ck (self:Sl7Search→(List Int)→Option (Unit×Sl7Search)) (s0:Sl7Search) (f0:(List Int)):Option (Unit×Sl7Search):=
 (Aj (Cq s0 f0) (0:Int)).bind fun q5_4=>
 if q5_4=(↑f0.length:Int) then
 ((if (s0.onto)=true then
 (Js (s0.b.Size) (f0)).bind fun r8=>
 some r8
 else
 some true:Option Bool)).bind fun q9_39=>
 if (q9_39)=true then
 ask ((s0.found).length+([f0]).length≤LIM) <|
 some ((),{ a:=s0.a,b:=s0.b,into:=s0.into,onto:=s0.onto,most:=s0.most,tries:=s0.tries,found:=s0.found++[f0] })
 else
 some ((),s0)
 else
 (Aj (A4 self f0 q5_4) ((0:Int),s0)).bind fun t=>match t with
 | (.inl q32_124)=>(some ((),q32_124))
 | (.inr q32_124)=>(some ((),q32_124))
noncomputable def Au:Nat→Sl7Search→(List Int)→Option (Unit×Sl7Search)
 | 0=>fun _ _=>none
 | n+1=>Ck (Au n)
theorem Zy {self:Sl7Search→(List Int)→Option (Unit×Sl7Search)} (hself : ∀ {w_0 w_1 v},self w_0 w_1=some v→I9 Tryz.prog Ct [(rP true (Bc)) w_0,(slr false 1 Ag) w_1] ((fun _r=>V.tup []) v.1) 0 ((rP true (Bc)) v.2)) {s0:Sl7Search} {f0:(List Int)} {v:(Unit×Sl7Search)} (h:Ck self s0 f0=some v):I9 Tryz.prog Ct [(rP true (Bc)) s0,(slr false 1 Ag) f0] ((fun _r=>V.tup []) v.1) 0 ((rP true (Bc)) v.2):=by
 refine Lg Add (Nat.le_of_ble_eq_true rfl) ?_
 unfold Ck at h
 refine LoopQ.o [4,0,124,1] (Iq s0 f0) (Nm s0 f0) h (fun s o h=>Yw s o h) (by rfl) (fun _=>rfl) ?_
 rintro q5_4 h
 try dsimp only at h
 refine Len.map<|Br.oe h (fun p6 h=> ?_) (fun p6 h=> ?_)
 ·refine CutQ.o (fun t:Bool=>match t with | s=>(Ex.normal,[39,0,124,1],[(39,A.val (V.bool s)),(0,A.ref 124 []),(124,A.val ((rP true (Bc)) (s0))),(1,A.val ((slr false 1 Ag) (f0)))])) h ?_ ?_
  ·intro t h
   refine Cells.lit rfl rfl<|Br.flip<|Br.ob h (fun p7 h=> ?_) (fun p7 h=> ?_)
   ·refine Br.no<|Br.no<|Br.no<|Br.no<|Cells.lit rfl rfl<|Br.no<|Br.no<|CallQ.o V.bool (by rfl) h (fun r h=>Aq8 h) (fun r8 h=> ?_)
    refine Br.no ?_
    cases h;exact ⟨rfl,rfl⟩
   refine Br.yes<|Br.yes<|Br.yes<|Br.yes<|Br.yes<|Br.yes<|Br.yes ?_
   cases h;exact ⟨rfl,rfl⟩
  rintro q9_39 h
  try dsimp only at h
  refine Br.ob h (fun p10 h=> ?_) (fun p10 h=> ?_)
  ·refine Cells.lit rfl rfl<|BslQ.o (slr false 1 Ag) [f0] (by exact fun _=>⟨rfl,rfl⟩) (by first | rfl | (simp only [Aa,V.fz,fzL,V.up,upL,Ab,Ac,Ad,slr,List.cons_append,List.nil_append];done) | simp [Aa,V.fz,fzL,V.up,upL,Ab,Ac,Ad,slr])<|NoOwn.o (fun _=>rfl)<|Kid.lit rfl rfl<|Kid.lit rfl rfl<|SetKids.lit rfl<|AppQ.o (m:=1) (slr false 1 Ag) (by exact fun _=>⟨rfl,rfl⟩) (s0.found) ([f0]) (by rfl) (by rfl) h fun h=>SetKids.lit rfl ?_
   cases h;exact ⟨(by rfl),(by rfl)⟩
  cases h;exact ⟨(by rfl),(by rfl)⟩
 refine LoopQ.o [5,4,0,124,1] (Io f0 q5_4) (M8 f0 q5_4) h (fun s o h=>Y5 hself s o h) (by rfl) (by rintro (_ | _)<;>rfl) ?_
 rintro (q32_124 | q32_124) h
 ·try dsimp only at h
  cases h;exact ⟨(by rfl),(by rfl)⟩
 try dsimp only at h
 cases h;exact ⟨(by rfl),(by rfl)⟩
theorem Nu : ∀(n:Nat) {s0:Sl7Search} {f0:(List Int)} {v:(Unit×Sl7Search)},Au n s0 f0=some v→I9 Tryz.prog Ct [(rP true (Bc)) s0,(slr false 1 Ag) f0] ((fun _r=>V.tup []) v.1) 0 ((rP true (Bc)) v.2)
 | 0,_,_,_,h=>by cases h
 | n+1,_,_,_,h=>Zy (fun h=>Nu n h) h
theorem Rk {s0:Sl7Search} {f0:(List Int)} {v:(Unit×Sl7Search)} (h:(Alw fun n=>Au n s0 f0)=some v):I9 Tryz.prog Ct [(rP true (Bc)) s0,(slr false 1 Ag) f0] ((fun _r=>V.tup []) v.1) 0 ((rP true (Bc)) v.2):=by
 obtain ⟨n,hn⟩:=Ate h
 exact Nu n hn
noncomputable def Gp (c0:Sl1Cur) (n0:Int):Option (Bool×Sl1Cur):=
 (A9 (c0) (n0)).bind fun (r1,u2)=>
 some (r1==(0:Int),u2)
theorem Zc {c0:Sl1Cur} {n0:Int} {v:(Bool×Sl1Cur)} (h:Gp c0 n0=some v):I9 Tryz.prog Lh [(rP true (Am false)) c0,Ag n0] (V.bool v.1) 0 ((rP true (Am false)) v.2):=by
 refine Lg Ain (Nat.le_of_ble_eq_true rfl) ?_
 unfold Gp at h
 refine CallQ.io Ag (rP true (Am false)) (by rfl) rfl (fun _=>rfl) (fun _=>⟨rfl,rfl⟩) rfl h (fun r h=>Bh h) (fun r1 u2 h=> ?_)
 cases h;exact ⟨(by rfl),(by rfl)⟩
noncomputable def B9 (c0:Sl1Cur) (list0:(List Int)):Option (Int×Sl1Cur):=
 (A9 (c0) ((↑list0.length:Int))).bind fun (r1,u2)=>
 ask ((0:Int)≤r1∧r1<(↑list0.length:Int)) <|
 some (nth list0 r1.toNat,u2)
theorem C1 {c0:Sl1Cur} {list0:(List Int)} {v:(Int×Sl1Cur)} (h:B9 c0 list0=some v):I9 Tryz.prog Ca [(rP true (Am false)) c0,(slr false 1 Ag) list0] (Ag v.1) 0 ((rP true (Am false)) v.2):=by
 refine Lg Aen (Nat.le_of_ble_eq_true rfl) ?_
 unfold B9 at h
 refine Len.map<|CallQ.io Ag (rP true (Am false)) (by rfl) rfl (fun _=>rfl) (fun _=>⟨rfl,rfl⟩) rfl h (fun r h=>Bh h) (fun r1 u2 h=> ?_)
 refine Len.map<|Ask.o h fun p3 h=>Elem.o (by first | omega | (simp [Aq] at * <;> omega)) ?_
 cases h;exact ⟨(by rfl),(by rfl)⟩
noncomputable def Cx (a0:SAlgebra):(Int×SAlgebra)→Option ((Int×SAlgebra) ⊕ SAlgebra):=fun (x12,x3)=>
 if x12<(↑a0.Ops.length:Int) then
 ask ((0:Int)≤x12∧x12<(↑a0.Ops.length:Int)) <|
 (Oq (nth a0.Ops x12.toNat)).bind fun r3=>
 ask ((x3.Ops).length+([r3]).length≤LIM) <|
 ask (InI (x12+(1:Int))) <|
 some (.inl (x12+(1:Int),{ Size:=x3.Size,Ops:=x3.Ops++[r3] }))
 else
 some (.inr x3)
def Iv (a0:SAlgebra):(Int×SAlgebra)→St:=fun s=>[(12,A.val (Ag s.1)),(11,A.val (Ag ((↑a0.Ops.length:Int)))),(10,A.val ((slr false 2 (Aw false)) (a0.Ops))),(3,A.val ((rP true (Ae true)) s.2)),(2,A.val ((rP true (Ae true)) ({ Size:=(0:Int),Ops:=Al SOp })))]
def N2 (_a0:SAlgebra):SAlgebra→Tgt
 | s=>((Ex.exit 0),[3,2],[(3,A.val ((rP true (Ae true)) s)),(2,A.val ((rP true (Ae true)) ({ Size:=(0:Int),Ops:=Al SOp })))])
theorem Zx {a0:SAlgebra} (s:(Int×SAlgebra)) (o:(Int×SAlgebra) ⊕ SAlgebra) (h:Cx a0 s=some o):vc Tryz.prog Oj (Cr [12,11,10,3,2] (Iv a0) (N2 a0) o) (Iv a0 s):=by
 obtain ⟨x12,x3⟩:=s
 unfold Cx at h
 try dsimp only at h
 refine Br.od h (fun p1 h=> ?_) (fun p1 h=> ?_)
 ·refine Len.map<|Ask.o h fun p2 h=>Elem.o (by first | omega | (simp [Aq] at * <;> omega))<|SetKids.lit rfl<|Cells.lit rfl rfl<|Cells.lit rfl rfl<|CallP.o (Aw true) (by rfl) h (fun r h=>Aoj h) (fun r3 h=> ?_)
  refine BslQ.o (Aw true) [r3] (by exact fun _=>⟨rfl,rfl⟩) (by first | rfl | (simp only [Aa,V.fz,fzL,V.up,upL,Ab,Ac,Ad,slr,List.cons_append,List.nil_append];done) | simp [Aa,V.fz,fzL,V.up,upL,Ab,Ac,Ad,slr])<|NoOwn.own rfl<|Kid.lit rfl rfl<|Kid.lit rfl rfl<|SetKids.lit rfl<|AppQ.o (m:=2) (Aw true) (by exact fun _=>⟨rfl,rfl⟩) (x3.Ops) ([r3]) (by rfl) (by rfl) h fun h=>SetKids.lit rfl<|Ask.o h fun p4 h=> ?_
  cases h;exact ⟨rfl,rfl⟩
 cases h;exact ⟨rfl,rfl⟩
noncomputable def Gd (a0:SAlgebra):Option SAlgebra:=
 (Aj (Cx a0) ((0:Int),{ Size:=a0.Size,Ops:=Al SOp })).bind fun q5_3=>
 some q5_3
theorem Ady {a0:SAlgebra} {v:SAlgebra} (h:Gd a0=some v):Ret Tryz.prog Ln [(Ae false) a0] ((Ae true) v):=by
 refine A6 Ad0 (Nat.le_of_ble_eq_true rfl) ?_
 unfold Gd at h
 refine Cells.lit rfl rfl<|SetKids.lit rfl<|Cells.lit rfl rfl<|Len.map<|LoopQ.o [12,11,10,3,2] (Iv a0) (N2 a0) h (fun s o h=>Zx s o h) (by rfl) (fun _=>rfl) ?_
 rintro q5_3 h
 try dsimp only at h
 refine Cells.lit rfl rfl<|SetKids.lit rfl ?_
 cases h;exact (by rfl)
noncomputable def Hj (a0:SAlgebra):(Int×(List Bool))→Option ((Int×(List Bool)) ⊕ (List Bool)):=fun (x6,x5)=>
 if x6≤a0.Size then
 (L3 (a0) (x5)).bind fun r3=>
 ask (InI (x6+(1:Int))) <|
 some (.inl (x6+(1:Int),r3))
 else
 some (.inr x5)
def Ow (a0:SAlgebra):(Int×(List Bool))→St:=fun s=>[(6,A.val (Ag s.1)),(5,A.val ((slr true 1 V.bool) s.2)),(2,A.val ((rP true (Ae false)) (a0)))]
def V8 (_a0:SAlgebra):(List Bool)→Tgt
 | s=>((Ex.exit 0),[5],[(5,A.val ((slr true 1 V.bool) s))])
theorem Ag3 {a0:SAlgebra} (s:(Int×(List Bool))) (o:(Int×(List Bool)) ⊕ (List Bool)) (h:Hj a0 s=some o):vc Tryz.prog Vm (Cr [6,5,2] (Ow a0) (V8 a0) o) (Ow a0 s):=by
 obtain ⟨x6,x5⟩:=s
 unfold Hj at h
 try dsimp only at h
 refine Cells.lit rfl rfl<|Br.od h (fun p2 h=> ?_) (fun p2 h=> ?_)
 ·refine Cells.lit rfl rfl<|CallQ.rd (slr true 1 V.bool) (by first | rfl | simp only [V.fz,fzL,Ab,slr] | simp [Aa,V.fz,fzL,V.up,upL,Ab,Ac,Ad,slr]) (fun _=>by simp [V.noFz,Bs]) h (fun r h=>Asw h) (fun r3 h=> ?_)
  refine Ask.o h fun p4 h=> ?_
  cases h;exact ⟨rfl,rfl⟩
 cases h;exact ⟨rfl,rfl⟩
noncomputable def K8 (a0:SAlgebra) (some0:(List Int)):Option (List Int):=
 (Qw (a0.Size) (some0)).bind fun r1=>
 (Aj (Hj a0) ((0:Int),r1)).bind fun q5_5=>
 (Lx (q5_5)).bind fun r6=>
 some r6
theorem Aoe {a0:SAlgebra} {some0:(List Int)} {v:(List Int)} (h:K8 a0 some0=some v):Ret Tryz.prog Tk [(Ae false) a0,(slr false 1 Ag) some0] ((slr true 1 Ag) v):=by
 refine A6 Am4 (Nat.le_of_ble_eq_true rfl) ?_
 unfold K8 at h
 refine Cells.lit rfl rfl<|CallQ.o (slr true 1 V.bool) (by rfl) h (fun r h=>Azt h) (fun r1 h=> ?_)
 refine LoopQ.o [6,5,2] (Ow a0) (V8 a0) h (fun s o h=>Ag3 s o h) (by rfl) (fun _=>rfl) ?_
 rintro q5_5 h
 try dsimp only at h
 refine CallQ.rd (slr true 1 Ag) (by first | rfl | simp only [V.fz,Ab,slr] | simp [Aa,V.fz,fzL,V.up,upL,Ab,Ac,Ad,slr]) (fun _=>by simp [V.noFz,Bs]) h (fun r h=>Ar5 h) (fun r6 h=> ?_)
 cases h;exact (by rfl)
end Go.Proofs.YtmkgjnphianalaaGreat.Ax
