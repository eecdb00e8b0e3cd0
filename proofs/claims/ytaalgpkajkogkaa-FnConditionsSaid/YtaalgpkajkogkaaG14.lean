/-
 What the functions compute, as functions on plain data, and that the program does compute it; written by program.
-/
import Derived.Test.YtaalgpkajkogkaaCode
import Derived.Test.YtaalgpkajkogkaaG1
import Derived.Test.YtaalgpkajkogkaaG2
import Derived.Test.YtaalgpkajkogkaaG8
import Derived.Test.YtaalgpkajkogkaaG11
import Derived.Test.YtaalgpkajkogkaaG13
namespace Go.Proofs.Ytaalgpkajkogkaa.Ax
open Go
set_option maxRecDepth 100000
set_option maxHeartbeats 4000000
noncomputable def Ep (a0:SAlgebra) (c0:SCondition) (r1:List (List Int)) (r2:List (List Int)):(Int×Sl15Search)->Option ((Int×Sl15Search) ⊕ Sl15Search):=λ(x8,x5)=>
 if x8<(↑r2.length:Int) then
 ask ((0:Int)<=x8/\x8<(↑r2.length:Int)) <|
 (Ir (x5) (a0.Size) (c0) (r1) (nth r2 x8.toNat) ({ Op:=(-1:Int),Args:=[x8] })).bind λr5=>
 ask (InI (x8+(1:Int))) <|
 some (.inl (x8+(1:Int),r5))
 else
 some (.inr x5)
def Qu (a0:SAlgebra) (c0:SCondition) (r1:List (List Int)) (r2:List (List Int)):(Int×Sl15Search)->St:=λs=>[(7,A.val (slr false 1 (slr false 1 Ae) r2)),(6,A.val (slr false 1 (slr false 1 Ae) r1)),(8,A.val (Ae s.1)),(5,A.val (rP true Aw s.2)),(4,A.val ((rP true Aw) ({ rows:=Av (List Int),steps:=Av SCloneStep,place:=(0:Int),tries:=(0:Int),open_:=false }))),(3,A.val (rP true (Ah false) c0)),(2,A.val (rP true (Aj false) a0))]
def Xb (a0:SAlgebra) (c0:SCondition) (r1:List (List Int)) (r2:List (List Int)):Sl15Search->Tgt
 | s=>((Ex.exit 0),[7,6,5,4,3,2],[(7,A.val (slr false 1 (slr false 1 Ae) r2)),(6,A.val (slr false 1 (slr false 1 Ae) r1)),(5,A.val (rP true Aw s)),(4,A.val ((rP true Aw) ({ rows:=Av (List Int),steps:=Av SCloneStep,place:=(0:Int),tries:=(0:Int),open_:=false }))),(3,A.val (rP true (Ah false) c0)),(2,A.val (rP true (Aj false) a0))])
theorem Aix {a0} {c0} {r1} {r2} (s) o (h:Ep a0 c0 r1 r2 s=some o):vc Try.prog Wg (Ch [7,6,8,5,4,3,2] (Qu a0 c0 r1 r2) (Xb a0 c0 r1 r2) o) (Qu a0 c0 r1 r2 s):=by
 obtain ⟨x8,x5⟩:=s;unfold Ep at h;try dsimp only at h
 refine Len.map<|Br.od h (λp3 h=> ?_) (λp3 h=> ?_)
 ·refine Cells.lit rfl rfl<|Cells.lit rfl rfl<|Cells.lit rfl rfl<|Len.map<|Ask.o h λp4 h=>Elem.o (by first | omega | (simp [Au] at * <;> omega))<|BslQ.o Ae [x8] (by exact λ_=>⟨rfl,rfl⟩) (by rfl)<|FrzQ.d (V.sl false (1:Nat) (List.map Ae [x8])) (by first | (simp only [Ak,Ac];done) | exact (Ak _).trans (Eq.trans (b:=V.fz (V.sl true (1:Nat) (List.map Ae [x8]))) rfl (Ac _ _ _)) | (simp [Ak,V.fz,Ab,Ac,slr];done) | (simp [Ak,V.fz,fzL,Ab,slr];done))<|Kid.lit rfl rfl<|Kid.lit rfl rfl<|LendQ.give2 (j1:=0) (j2:=1) 0 (Aw) (by rfl) rfl rfl rfl (λ_=>by first | rfl | simp [Co,V.noFz,Bq,Bb,NoFz.eq]) rfl h (λr h=>Afd h) (λr5 h=> ?_)
  refine Kid.lit rfl rfl<|SetKids.lit rfl<|Kid.lit rfl rfl<|SetKids.lit rfl<|Kid.lit rfl rfl<|SetKids.lit rfl<|SetKids.lit rfl<|Ask.o h λp6 h=> ?_
  cases h;exact ⟨rfl,rfl⟩
 cases h;exact ⟨rfl,rfl⟩
noncomputable def Fm (_a0:SAlgebra) (_c0:SCondition) (_r1:List (List Int)) (_r2:List (List Int)) (_x9:Int) (_x5:Sl15Search) (_x11:Int) (_x12:Int) (x5'':Sl15Search) (r23:List Int):(Int×(List (List Int)))->Option ((Int×(List (List Int))) ⊕ (List (List Int))):=λ(x15,x14)=>
 if x15<(↑r23.length:Int) then
 ask ((0:Int)<=x15/\x15<(↑r23.length:Int)) <|
 ask ((0:Int)<=nth r23 x15.toNat/\nth r23 x15.toNat<(↑x5''.rows.length:Int)) <|
 ask ((x14).length+([nth x5''.rows (nth r23 x15.toNat).toNat]).length<=LIM) <|
 ask (InI (x15+(1:Int))) <|
 some (.inl (x15+(1:Int),x14++[nth x5''.rows (nth r23 x15.toNat).toNat]))
 else
 some (.inr x14)
def Qi (a0:SAlgebra) (c0:SCondition) (r1:List (List Int)) (r2:List (List Int)) (x9:Int) (x5:Sl15Search) (x11:Int) (x12:Int) (x5'':Sl15Search) (r23:List Int):(Int×(List (List Int)))->St:=λs=>[(15,A.val (Ae s.1)),(14,A.val (slr true 1 (slr false 1 Ae) s.2)),(13,A.val (slr true 1 Ae r23)),(12,A.val (Ae x12)),(11,A.val (Ae x11)),(10,A.val (Ae ((↑x5.rows.length:Int)))),(9,A.val (Ae x9)),(7,A.val (slr false 1 (slr false 1 Ae) r2)),(6,A.val (slr false 1 (slr false 1 Ae) r1)),(5,A.val (rP true Aw x5'')),(4,A.val ((rP true Aw) ({ rows:=Av (List Int),steps:=Av SCloneStep,place:=(0:Int),tries:=(0:Int),open_:=false }))),(3,A.val (rP true (Ah false) c0)),(2,A.val (rP true (Aj false) a0))]
def Xa (a0:SAlgebra) (c0:SCondition) (r1:List (List Int)) (r2:List (List Int)) (x9:Int) (x5:Sl15Search) (x11:Int) (x12:Int) (x5'':Sl15Search) (r23:List Int):(List (List Int))->Tgt
 | s=>((Ex.exit 8),[14,13,12,11,10,9,7,6,5,4,3,2],[(14,A.val (slr true 1 (slr false 1 Ae) s)),(13,A.val (slr true 1 Ae r23)),(12,A.val (Ae x12)),(11,A.val (Ae x11)),(10,A.val (Ae ((↑x5.rows.length:Int)))),(9,A.val (Ae x9)),(7,A.val (slr false 1 (slr false 1 Ae) r2)),(6,A.val (slr false 1 (slr false 1 Ae) r1)),(5,A.val (rP true Aw x5'')),(4,A.val ((rP true Aw) ({ rows:=Av (List Int),steps:=Av SCloneStep,place:=(0:Int),tries:=(0:Int),open_:=false }))),(3,A.val (rP true (Ah false) c0)),(2,A.val (rP true (Aj false) a0))])
theorem Aji {a0} {c0} {r1} {r2} {x9} {x5} {x11} {x12} {x5''} {r23} (s) o (h:Fm a0 c0 r1 r2 x9 x5 x11 x12 x5'' r23 s=some o):vc Try.prog Wy (Ch [15,14,13,12,11,10,9,7,6,5,4,3,2] (Qi a0 c0 r1 r2 x9 x5 x11 x12 x5'' r23) (Xa a0 c0 r1 r2 x9 x5 x11 x12 x5'' r23) o) (Qi a0 c0 r1 r2 x9 x5 x11 x12 x5'' r23 s):=by
 obtain ⟨x15,x14⟩:=s;unfold Fm at h;try dsimp only at h
 refine Len.map<|Br.od h (λp24 h=> ?_) (λp24 h=> ?_)
 ·refine Cells.lit rfl rfl<|Len.map<|Ask.o h λp25 h=>Cells.one (λ_=>⟨rfl,rfl⟩) (by first | omega | (simp [Au] at * <;> omega))<|Kid.lit rfl rfl<|Len.map<|Ask.o h λp26 h=>Kid.lit rfl rfl<|Cells.one (λ_=>⟨rfl,rfl⟩) (by first | omega | (simp [Au] at * <;> omega))<|BslQ.o (slr false 1 Ae) ([nth x5''.rows (nth r23 x15.toNat).toNat]) (by exact λ_=>⟨rfl,rfl⟩) (by rfl)<|NoOwn.o (λ_=>rfl)<|AppQ.o (m:=1) (slr false 1 Ae) (by exact λ_=>⟨rfl,rfl⟩) (x14) ([nth x5''.rows (nth r23 x15.toNat).toNat]) (by rfl) (by rfl) h λh=>Ask.o h λp27 h=> ?_
  cases h;exact ⟨rfl,rfl⟩
 cases h;exact ⟨rfl,rfl⟩
noncomputable def Dp (a0:SAlgebra) (c0:SCondition) (r1:List (List Int)) (r2:List (List Int)) (x9:Int) (x5:Sl15Search) (x11:Int):(Int×Sl15Search)->Option ((Int×Sl15Search) ⊕ Sl15Search):=λ(x12,x5'')=>
 ((ask ((0:Int)<=x11/\x11<(↑a0.Ops.length:Int)) <|
 (Dq ((↑x5.rows.length:Int)) ((nth a0.Ops x11.toNat).Arity)).bind λr14=>
 if x12<r14 then
 if x5''.place<(0:Int) then
 if (x5''.open_)=true then
 some (.inl ())
 else
 some (.inr ())
 else
 some (.inl ())
 else
 some (.inl ()):Option (Unit ⊕ Unit))).bind λt=>match t with
 | (.inl _)=>(some (.inr x5''))
 | (.inr _)=>(ask ((0:Int)<=x11/\x11<(↑a0.Ops.length:Int)) <|
 (Kp ((↑x5.rows.length:Int)) ((nth a0.Ops x11.toNat).Arity) (x12) (x9)).bind λr20=>
 if (r20)=true then
 ask ((0:Int)<=x11/\x11<(↑a0.Ops.length:Int)) <|
 (Hd ((↑x5.rows.length:Int)) ((nth a0.Ops x11.toNat).Arity) (x12)).bind λr23=>
 (Aq (Fm a0 c0 r1 r2 x9 x5 x11 x12 x5'' r23) ((0:Int),Av (List Int))).bind λq28_14=>
 ask (InI (x5''.tries+(1:Int))) <|
 if x5''.tries+(1:Int)>(100000:Int) then
 ask (InI (x12+(1:Int))) <|
 some (.inl (x12+(1:Int),{ rows:=x5''.rows,steps:=x5''.steps,place:=x5''.place,tries:=x5''.tries+(1:Int),open_:=decide (x5''.tries+(1:Int)>(100000:Int)) }))
 else
 ask ((0:Int)<=x11/\x11<(↑a0.Ops.length:Int)) <|
 ask ((0:Int)<=(0:Int)/\(0:Int)<(↑r2.length:Int)) <|
 (Fh (a0.Size) (nth a0.Ops x11.toNat) (q28_14) ((↑(nth r2 (Int.toNat (0:Int))).length:Int))).bind λr34=>
 (Ir ({ rows:=x5''.rows,steps:=x5''.steps,place:=x5''.place,tries:=x5''.tries+(1:Int),open_:=decide (x5''.tries+(1:Int)>(100000:Int)) }) (a0.Size) (c0) (r1) (r34) ({ Op:=x11,Args:=r23 })).bind λr35=>
 ask (InI (x12+(1:Int))) <|
 some (.inl (x12+(1:Int),r35))
 else
 ask (InI (x12+(1:Int))) <|
 some (.inl (x12+(1:Int),x5'')))
def Pa (a0:SAlgebra) (c0:SCondition) (r1:List (List Int)) (r2:List (List Int)) (x9:Int) (x5:Sl15Search) (x11:Int):(Int×Sl15Search)->St:=λs=>[(12,A.val (Ae s.1)),(11,A.val (Ae x11)),(10,A.val (Ae ((↑x5.rows.length:Int)))),(9,A.val (Ae x9)),(7,A.val (slr false 1 (slr false 1 Ae) r2)),(6,A.val (slr false 1 (slr false 1 Ae) r1)),(5,A.val (rP true Aw s.2)),(4,A.val ((rP true Aw) ({ rows:=Av (List Int),steps:=Av SCloneStep,place:=(0:Int),tries:=(0:Int),open_:=false }))),(3,A.val (rP true (Ah false) c0)),(2,A.val (rP true (Aj false) a0))]
def Wk (a0:SAlgebra) (c0:SCondition) (r1:List (List Int)) (r2:List (List Int)) (x9:Int) (x5:Sl15Search) (x11:Int):Sl15Search->Tgt
 | s=>((Ex.exit 6),[11,10,9,7,6,5,4,3,2],[(11,A.val (Ae x11)),(10,A.val (Ae ((↑x5.rows.length:Int)))),(9,A.val (Ae x9)),(7,A.val (slr false 1 (slr false 1 Ae) r2)),(6,A.val (slr false 1 (slr false 1 Ae) r1)),(5,A.val (rP true Aw s)),(4,A.val ((rP true Aw) ({ rows:=Av (List Int),steps:=Av SCloneStep,place:=(0:Int),tries:=(0:Int),open_:=false }))),(3,A.val (rP true (Ah false) c0)),(2,A.val (rP true (Aj false) a0))])
theorem Aho {a0} {c0} {r1} {r2} {x9} {x5} {x11} (s) o (h:Dp a0 c0 r1 r2 x9 x5 x11 s=some o):vc Try.prog W9 (Ch [12,11,10,9,7,6,5,4,3,2] (Pa a0 c0 r1 r2 x9 x5 x11) (Wk a0 c0 r1 r2 x9 x5 x11) o) (Pa a0 c0 r1 r2 x9 x5 x11 s):=by
 obtain ⟨x12,x5''⟩:=s;unfold Dp at h;try dsimp only at h
 refine CutQ.o (λt:(Unit ⊕ Unit)=>match t with | (.inl s)=>((Ex.exit 6),[11,10,9,7,6,5,4,3,2],[(11,A.val (Ae (x11))),(10,A.val (Ae ((↑x5.rows.length:Int)))),(9,A.val (Ae (x9))),(7,A.val ((slr false 1 (slr false 1 Ae)) (r2))),(6,A.val ((slr false 1 (slr false 1 Ae)) (r1))),(5,A.val ((rP true (Aw)) (x5''))),(4,A.val ((rP true (Aw)) ({ rows:=Av (List Int),steps:=Av SCloneStep,place:=(0:Int),tries:=(0:Int),open_:=false }))),(3,A.val ((rP true (Ah false)) (c0))),(2,A.val ((rP true (Aj false)) (a0)))]) | (.inr s)=>(Ex.normal,[12,11,10,9,7,6,5,4,3,2],[(12,A.val (Ae (x12))),(11,A.val (Ae (x11))),(10,A.val (Ae ((↑x5.rows.length:Int)))),(9,A.val (Ae (x9))),(7,A.val ((slr false 1 (slr false 1 Ae)) (r2))),(6,A.val ((slr false 1 (slr false 1 Ae)) (r1))),(5,A.val ((rP true (Aw)) (x5''))),(4,A.val ((rP true (Aw)) ({ rows:=Av (List Int),steps:=Av SCloneStep,place:=(0:Int),tries:=(0:Int),open_:=false }))),(3,A.val ((rP true (Ah false)) (c0))),(2,A.val ((rP true (Aj false)) (a0)))])) h ?_ ?_
 ·intro t h;refine Cells.lit rfl rfl<|Len.map<|Ask.o h λp13 h=>Elem.o (by first | omega | (simp [Au] at * <;> omega))<|CallQ.o Ae (by rfl) h (λr h=>Qe h) (λr14 h=> ?_)
  refine Br.od h (λp15 h=> ?_) (λp15 h=> ?_)
  ·refine Br.yes<|Cells.lit rfl rfl<|Br.yes<|Br.yes<|Br.od h (λp16 h=> ?_) (λp16 h=> ?_)
   ·refine Br.yes<|Cells.lit rfl rfl<|Br.yes<|Br.yes<|Br.flip<|Br.ob h (λp17 h=> ?_) (λp17 h=> ?_)
    ·cases h;exact ⟨rfl,rfl⟩
    cases h;exact ⟨rfl,rfl⟩
   refine Br.no<|Br.no<|Br.no<|Br.no ?_
   cases h;exact ⟨rfl,rfl⟩
  refine Br.no<|Br.no<|Br.no<|Br.no<|Br.no<|Br.no<|Br.no<|Br.no ?_
  cases h;exact ⟨rfl,rfl⟩
 rintro (⟨⟩ | ⟨⟩) h
 ·try dsimp only at h
  cases h;exact ⟨rfl,rfl⟩
 try dsimp only at h
 refine Cells.lit rfl rfl<|Len.map<|Ask.o h λp19 h=>Elem.o (by first | omega | (simp [Au] at * <;> omega))<|CallQ.o V.bool (by rfl) h (λr h=>Amp h) (λr20 h=> ?_)
 refine Br.flip<|Br.ob h (λp21 h=> ?_) (λp21 h=> ?_)
 ·refine Cells.lit rfl rfl<|Len.map<|Ask.o h λp22 h=>Elem.o (by first | omega | (simp [Au] at * <;> omega))<|CallQ.o (slr true 1 Ae) (by rfl) h (λr h=>Xo h) (λr23 h=> ?_)
  refine BslQ.o (slr true 1 Ae) (Av (List Int)) (by exact λ_=>⟨rfl,rfl⟩) (by rfl)<|LoopQ.o [15,14,13,12,11,10,9,7,6,5,4,3,2] (Qi a0 c0 r1 r2 x9 x5 x11 x12 x5'' r23) (Xa a0 c0 r1 r2 x9 x5 x11 x12 x5'' r23) h (λs o h=>Aji s o h) (by rfl) (λ_=>rfl) ?_
  rintro q28_14 h;try dsimp only at h
  refine Cells.lit rfl rfl<|Ask.o h λp29 h=>SetKids.lit rfl<|Cells.lit rfl rfl<|SetKids.lit rfl<|Cells.lit rfl rfl<|Br.flip<|Br.od h (λp30 h=> ?_) (λp30 h=> ?_)
  ·refine Ask.o h λp31 h=> ?_
   cases h;exact ⟨rfl,rfl⟩
  refine FrzQ.d (V.sl false (1:Nat) (List.map (slr false (1:Nat) Ae) q28_14)) (by first | (simp only [slr];done) | exact (Ak _).trans (Eq.trans (b:=V.fz (V.sl true (1:Nat) (List.map (slr false (1:Nat) Ae) q28_14))) rfl (Ac _ _ _)) | (simp [Ak,V.fz,Ab,Ac,slr];done) | (simp [Ak,V.fz,fzL,Ab,slr];done))<|FrzQ.d (V.sl false (1:Nat) (List.map Ae r23)) (by first | (simp only [slr];done) | exact (Ak _).trans (Eq.trans (b:=V.fz (V.sl true (1:Nat) (List.map Ae r23))) rfl (Ac _ _ _)) | (simp [Ak,V.fz,Ab,Ac,slr];done) | (simp [Ak,V.fz,fzL,Ab,slr];done))<|Cells.lit rfl rfl<|Cells.lit rfl rfl<|Cells.lit rfl rfl<|Cells.lit rfl rfl<|Cells.lit rfl rfl<|Len.map<|Ask.o h λp32 h=>Elem.o (by first | omega | (simp [Au] at * <;> omega))<|Len.map<|Ask.o h λp33 h=>Elem.o (by first | omega | (simp [Au] at * <;> omega))<|Len.map<|CallP.o (slr false 1 Ae) (by rfl) h (λr h=>Ret.frz (P9 h) (by first | rfl | simp only [V.fz,Ab,slr] | simp [Aa,V.fz,fzL,V.up,upL,Ab,Ac,Ad,slr])) (λr34 h=> ?_)
  refine Kid.lit rfl rfl<|Kid.lit rfl rfl<|LendQ.give2 (j1:=0) (j2:=1) 0 (Aw) (by rfl) rfl rfl rfl (λ_=>by first | rfl | simp [Co,V.noFz,Bq,Bb,NoFz.eq]) rfl h (λr h=>Afd h) (λr35 h=> ?_)
  refine Kid.lit rfl rfl<|SetKids.lit rfl<|Kid.lit rfl rfl<|SetKids.lit rfl<|Kid.lit rfl rfl<|SetKids.lit rfl<|SetKids.lit rfl<|Ask.o h λp36 h=> ?_
  cases h;exact ⟨rfl,rfl⟩
 refine Ask.o h λp37 h=> ?_
 cases h;exact ⟨rfl,rfl⟩
noncomputable def Eo (a0:SAlgebra) (c0:SCondition) (r1:List (List Int)) (r2:List (List Int)) (x9:Int) (x5:Sl15Search):(Int×Sl15Search)->Option ((Int×Sl15Search) ⊕ Sl15Search):=λ(x11,x5')=>
 if x11<(↑a0.Ops.length:Int) then
 (Aq (Dp a0 c0 r1 r2 x9 x5 x11) ((0:Int),x5')).bind λq38_5=>
 ask (InI (x11+(1:Int))) <|
 some (.inl (x11+(1:Int),q38_5))
 else
 some (.inr x5')
def Qc (a0:SAlgebra) (c0:SCondition) (r1:List (List Int)) (r2:List (List Int)) (x9:Int) (x5:Sl15Search):(Int×Sl15Search)->St:=λs=>[(11,A.val (Ae s.1)),(10,A.val (Ae ((↑x5.rows.length:Int)))),(9,A.val (Ae x9)),(7,A.val (slr false 1 (slr false 1 Ae) r2)),(6,A.val (slr false 1 (slr false 1 Ae) r1)),(5,A.val (rP true Aw s.2)),(4,A.val ((rP true Aw) ({ rows:=Av (List Int),steps:=Av SCloneStep,place:=(0:Int),tries:=(0:Int),open_:=false }))),(3,A.val (rP true (Ah false) c0)),(2,A.val (rP true (Aj false) a0))]
def Wl (a0:SAlgebra) (c0:SCondition) (r1:List (List Int)) (r2:List (List Int)) (_x9:Int) (x5:Sl15Search):Sl15Search->Tgt
 | s=>((Ex.exit 4),[10,7,6,5,4,3,2],[(10,A.val (Ae ((↑x5.rows.length:Int)))),(7,A.val (slr false 1 (slr false 1 Ae) r2)),(6,A.val (slr false 1 (slr false 1 Ae) r1)),(5,A.val (rP true Aw s)),(4,A.val ((rP true Aw) ({ rows:=Av (List Int),steps:=Av SCloneStep,place:=(0:Int),tries:=(0:Int),open_:=false }))),(3,A.val (rP true (Ah false) c0)),(2,A.val (rP true (Aj false) a0))])
theorem Ahi {a0} {c0} {r1} {r2} {x9} {x5} (s) o (h:Eo a0 c0 r1 r2 x9 x5 s=some o):vc Try.prog Wu (Ch [11,10,9,7,6,5,4,3,2] (Qc a0 c0 r1 r2 x9 x5) (Wl a0 c0 r1 r2 x9 x5) o) (Qc a0 c0 r1 r2 x9 x5 s):=by
 obtain ⟨x11,x5'⟩:=s;unfold Eo at h;try dsimp only at h
 refine Cells.lit rfl rfl<|Len.map<|Br.od h (λp12 h=> ?_) (λp12 h=> ?_)
 ·refine LoopQ.o [12,11,10,9,7,6,5,4,3,2] (Pa a0 c0 r1 r2 x9 x5 x11) (Wk a0 c0 r1 r2 x9 x5 x11) h (λs o h=>Aho s o h) (by rfl) (λ_=>rfl) ?_;rintro q38_5 h;try dsimp only at h
  refine Ask.o h λp39 h=> ?_
  cases h;exact ⟨rfl,rfl⟩
 cases h;exact ⟨rfl,rfl⟩
noncomputable def En (a0:SAlgebra) (c0:SCondition) (r1:List (List Int)) (r2:List (List Int)):(Int×Sl15Search)->Option ((Int×Sl15Search) ⊕ Sl15Search):=λ(x9,x5)=>
 ((if x9<(↑x5.rows.length:Int) then
 if x5.place<(0:Int) then
 if (x5.open_)=true then
 some (.inl ())
 else
 some (.inr ())
 else
 some (.inl ())
 else
 some (.inl ()):Option (Unit ⊕ Unit))).bind λt=>match t with
 | (.inl _)=>(some (.inr x5))
 | (.inr _)=>((Aq (Eo a0 c0 r1 r2 x9 x5) ((0:Int),x5)).bind λq40_5=>
 some (.inl ((↑x5.rows.length:Int),q40_5)))
def Ox (a0:SAlgebra) (c0:SCondition) (r1:List (List Int)) (r2:List (List Int)):(Int×Sl15Search)->St:=λs=>[(9,A.val (Ae s.1)),(7,A.val (slr false 1 (slr false 1 Ae) r2)),(6,A.val (slr false 1 (slr false 1 Ae) r1)),(5,A.val (rP true Aw s.2)),(4,A.val ((rP true Aw) ({ rows:=Av (List Int),steps:=Av SCloneStep,place:=(0:Int),tries:=(0:Int),open_:=false }))),(3,A.val (rP true (Ah false) c0)),(2,A.val (rP true (Aj false) a0))]
def W8 (_a0:SAlgebra) (_c0:SCondition) (_r1:List (List Int)) (_r2:List (List Int)):Sl15Search->Tgt
 | s=>((Ex.exit 2),[5,4],[(5,A.val (rP true Aw s)),(4,A.val ((rP true Aw) ({ rows:=Av (List Int),steps:=Av SCloneStep,place:=(0:Int),tries:=(0:Int),open_:=false })))])
theorem Ahl {a0} {c0} {r1} {r2} (s) o (h:En a0 c0 r1 r2 s=some o):vc Try.prog Wv (Ch [9,7,6,5,4,3,2] (Ox a0 c0 r1 r2) (W8 a0 c0 r1 r2) o) (Ox a0 c0 r1 r2 s):=by
 obtain ⟨x9,x5⟩:=s;unfold En at h;try dsimp only at h
 refine CutQ.o (λt:(Unit ⊕ Unit)=>match t with | (.inl s)=>((Ex.exit 2),[5,4],[(5,A.val ((rP true (Aw)) (x5))),(4,A.val ((rP true (Aw)) ({ rows:=Av (List Int),steps:=Av SCloneStep,place:=(0:Int),tries:=(0:Int),open_:=false })))]) | (.inr s)=>(Ex.normal,[9,7,6,5,4,3,2],[(9,A.val (Ae (x9))),(7,A.val ((slr false 1 (slr false 1 Ae)) (r2))),(6,A.val ((slr false 1 (slr false 1 Ae)) (r1))),(5,A.val ((rP true (Aw)) (x5))),(4,A.val ((rP true (Aw)) ({ rows:=Av (List Int),steps:=Av SCloneStep,place:=(0:Int),tries:=(0:Int),open_:=false }))),(3,A.val ((rP true (Ah false)) (c0))),(2,A.val ((rP true (Aj false)) (a0)))])) h ?_ ?_
 ·intro t h;refine Cells.lit rfl rfl<|Kid.lit rfl rfl<|Len.map<|Br.od h (λp8 h=> ?_) (λp8 h=> ?_)
  ·refine Br.yes<|Cells.lit rfl rfl<|Br.yes<|Br.yes<|Br.od h (λp9 h=> ?_) (λp9 h=> ?_)
   ·refine Br.yes<|Cells.lit rfl rfl<|Br.yes<|Br.yes<|Br.flip<|Br.ob h (λp10 h=> ?_) (λp10 h=> ?_)
    ·cases h;exact ⟨rfl,rfl⟩
    cases h;exact ⟨rfl,rfl⟩
   refine Br.no<|Br.no<|Br.no<|Br.no ?_
   cases h;exact ⟨rfl,rfl⟩
  refine Br.no<|Br.no<|Br.no<|Br.no<|Br.no<|Br.no<|Br.no<|Br.no ?_
  cases h;exact ⟨rfl,rfl⟩
 rintro (⟨⟩ | ⟨⟩) h
 ·try dsimp only at h
  cases h;exact ⟨rfl,rfl⟩
 try dsimp only at h
 refine Cells.lit rfl rfl<|Kid.lit rfl rfl<|Len.map<|LoopQ.o [11,10,9,7,6,5,4,3,2] (Qc a0 c0 r1 r2 x9 x5) (Wl a0 c0 r1 r2 x9 x5) h (λs o h=>Ahi s o h) (by rfl) (λ_=>rfl) ?_
 rintro q40_5 h;try dsimp only at h
 cases h;exact ⟨rfl,rfl⟩
noncomputable def Et (a0:SAlgebra) (c0:SCondition):Option Sl15Search:=
 (D0 (c0)).bind λr1=>
 (Eu (a0.Size) (c0)).bind λr2=>
 (Aq (Ep a0 c0 r1 r2) ((0:Int),{ rows:=Av (List Int),steps:=Av SCloneStep,place:=(-1:Int),tries:=(0:Int),open_:=false })).bind λq7_5=>
 (Aq (En a0 c0 r1 r2) ((0:Int),q7_5)).bind λq41_5=>
 some q41_5
theorem Pn {a0} {c0} {v} (h:Et a0 c0=some v):Ret Try.prog Ja [(Aj false) a0,(Ah false) c0] ((Aw) v):=by
 refine Bn Apy (Nat.le_of_ble_eq_true rfl) ?_;unfold Et at h;refine SetKids.lit rfl<|Cells.lit rfl rfl<|CallP.o (slr true 1 (slr true 1 Ae)) (by rfl) h (λr h=>J8 h) (λr1 h=> ?_)
 refine Cells.lit rfl rfl<|Cells.lit rfl rfl<|CallQ.o (slr true 1 (slr true 1 Ae)) (by rfl) h (λr h=>Tc h) (λr2 h=> ?_)
 refine FrzQ.d (V.sl false (1:Nat) (List.map (slr false (1:Nat) Ae) r1)) (by first | (simp only [slr];done) | exact (Ak _).trans (Eq.trans (b:=V.fz (V.sl true (1:Nat) (List.map (slr true (1:Nat) Ae) r1))) rfl (Ac _ _ _)) | (simp [Ak,V.fz,Ab,Ac,slr];done) | (simp [Ak,V.fz,fzL,Ab,slr];done))<|FrzQ.d (V.sl false (1:Nat) (List.map (slr false (1:Nat) Ae) r2)) (by first | (simp only [slr];done) | exact (Ak _).trans (Eq.trans (b:=V.fz (V.sl true (1:Nat) (List.map (slr true (1:Nat) Ae) r2))) rfl (Ac _ _ _)) | (simp [Ak,V.fz,Ab,Ac,slr];done) | (simp [Ak,V.fz,fzL,Ab,slr];done))<|LoopQ.o [7,6,8,5,4,3,2] (Qu a0 c0 r1 r2) (Xb a0 c0 r1 r2) h (λs o h=>Aix s o h) (by rfl) (λ_=>rfl) ?_
 rintro q7_5 h;try dsimp only at h
 refine LoopQ.o [9,7,6,5,4,3,2] (Ox a0 c0 r1 r2) (W8 a0 c0 r1 r2) h (λs o h=>Ahl s o h) (by rfl) (λ_=>rfl) ?_;rintro q41_5 h;try dsimp only at h
 refine Cells.lit rfl rfl<|SetKids.lit rfl ?_
 cases h;exact (by rfl)
end Go.Proofs.Ytaalgpkajkogkaa.Ax
