/-
 What the functions compute, as functions on plain data, and that the program does compute it; written by program.
-/
import Derived.Test.YtpfikenknmlajaaCode
import Derived.Test.YtpfikenknmlajaaG1
import Derived.Test.YtpfikenknmlajaaG2
import Derived.Test.YtpfikenknmlajaaG5
import Derived.Test.YtpfikenknmlajaaG6
namespace Go.Proofs.Ytpfikenknmlajaa.Ax
open Go
set_option maxRecDepth 100000
set_option maxHeartbeats 4000000
noncomputable def Dm (_pairs0:List (Int×Int)) (r5:List (List Bool)):(Int×(List (List Bool)))→Option ((Int×(List (List Bool))) ⊕ (List (List Bool))):=fun (x29,x6)=>
 if x29<(↑r5.length:Int) then
 ask ((0:Int)≤x29∧x29<(↑x6.length:Int)) <|
 ask ((0:Int)≤x29∧x29<(↑(nth x6 x29.toNat).length:Int)) <|
 ask (InI (x29+(1:Int))) <|
 some (.inl (x29+(1:Int),x6.set x29.toNat ((nth x6 x29.toNat).set x29.toNat true)))
 else
 some (.inr x6)
def Lb (pairs0:List (Int×Int)) (r5:List (List Bool)):(Int×(List (List Bool)))→St:=fun s=>[(29,A.val (Af s.1)),(28,A.val (Af ((↑r5.length:Int)))),(6,A.val ((slr true 1 (slr true 1 V.bool)) s.2)),(4,A.val ((rP true (Ag true)) ({ Below:=Ar (List Int) }))),(1,A.val ((slr false 2 (rA2 Af)) (pairs0)))]
def Rn (pairs0:List (Int×Int)) (_r5:List (List Bool)):(List (List Bool))→Tgt
 | s=>((Ex.exit 0),[6,4,1],[(6,A.val ((slr true 1 (slr true 1 V.bool)) s)),(4,A.val ((rP true (Ag true)) ({ Below:=Ar (List Int) }))),(1,A.val ((slr false 2 (rA2 Af)) (pairs0)))])
theorem Acg {pairs0:List (Int×Int)} {r5:List (List Bool)} (s:(Int×(List (List Bool)))) (o:(Int×(List (List Bool))) ⊕ (List (List Bool))) (h:Dm pairs0 r5 s=some o):vc Try.prog R4 (Cc [29,28,6,4,1] (Lb pairs0 r5) (Rn pairs0 r5) o) (Lb pairs0 r5 s):=by
 obtain ⟨x29,x6⟩:=s
 unfold Dm at h
 try dsimp only at h
 refine Br.od h (fun p6 h=> ?_) (fun p6 h=> ?_)
 ·refine Len.map<|Ask.o h fun p7 h=>Cells.one (fun _=>⟨rfl,rfl⟩) (by first | omega | (simp [Ak] at * <;> omega))<|Kid.one (fun _=>⟨rfl,rfl⟩) (by first | omega | (simp [Ak] at * <;> omega))<|Len.map<|Ask.o h fun p8 h=>Kid.one (fun _=>⟨rfl,rfl⟩) (by first | omega | (simp [Ak] at * <;> omega))<|SetKids.one (fun _=>⟨rfl,rfl⟩) (true) (by rfl) (by first | omega | (simp [Ak] at * <;> omega))<|Kid.one (fun _=>⟨rfl,rfl⟩) (by first | omega | (simp [Ak] at * <;> omega))<|SetKids.one (fun _=>⟨rfl,rfl⟩) ((nth x6 x29.toNat).set x29.toNat true) (by rfl) (by first | omega | (simp [Ak] at * <;> omega))<|Ask.o h fun p9 h=> ?_
  cases h;exact ⟨rfl,rfl⟩
 cases h;exact ⟨rfl,rfl⟩
noncomputable def Ch (pairs0:List (Int×Int)):(Int×(List (List Bool)))→Option ((Int×(List (List Bool))) ⊕ (Unit ⊕ (List (List Bool)))):=fun (x41,x6)=>
 if x41<(↑pairs0.length:Int) then
 ask ((0:Int)≤x41∧x41<(↑pairs0.length:Int)) <|
 (((F4 (x6) ([(nth pairs0 x41.toNat).fst,(nth pairs0 x41.toNat).snd])).bind fun r13=>
 if (r13)=true then
 if (nth pairs0 x41.toNat).fst=(nth pairs0 x41.toNat).snd then
 some (.inl ())
 else
 some (.inr ())
 else
 some (.inl ()):Option (Unit ⊕ Unit))).bind fun t=>match t with
 | (.inl _)=>(some (.inr (.inl ())))
 | (.inr _)=>(ask ((0:Int)≤(nth pairs0 x41.toNat).fst∧(nth pairs0 x41.toNat).fst<(↑x6.length:Int)) <|
 ask ((0:Int)≤(nth pairs0 x41.toNat).snd∧(nth pairs0 x41.toNat).snd<(↑(nth x6 (nth pairs0 x41.toNat).fst.toNat).length:Int)) <|
 ask (InI (x41+(1:Int))) <|
 some (.inl (x41+(1:Int),x6.set (nth pairs0 x41.toNat).fst.toNat ((nth x6 (nth pairs0 x41.toNat).fst.toNat).set (nth pairs0 x41.toNat).snd.toNat true))))
 else
 some (.inr (.inr x6))
def Kx (pairs0:List (Int×Int)):(Int×(List (List Bool)))→St:=fun s=>[(41,A.val (Af s.1)),(40,A.val (Af ((↑pairs0.length:Int)))),(39,A.val ((slr false 2 (rA2 Af)) (pairs0))),(6,A.val ((slr true 1 (slr true 1 V.bool)) s.2)),(4,A.val ((rP true (Ag true)) ({ Below:=Ar (List Int) })))]
def Sf (_pairs0:List (Int×Int)):(Unit ⊕ (List (List Bool)))→Tgt
 | (.inl _s)=>(Ex.ret,[5,4],[(5,A.val (V.bool (false))),(4,A.val ((rP true (Ag true)) ({ Below:=Ar (List Int) })))])
 | (.inr s)=>((Ex.exit 2),[6,4],[(6,A.val ((slr true 1 (slr true 1 V.bool)) s)),(4,A.val ((rP true (Ag true)) ({ Below:=Ar (List Int) })))])
theorem Abt {pairs0:List (Int×Int)} (s:(Int×(List (List Bool)))) (o:(Int×(List (List Bool))) ⊕ (Unit ⊕ (List (List Bool)))) (h:Ch pairs0 s=some o):vc Try.prog R0 (Cc [41,40,39,6,4] (Kx pairs0) (Sf pairs0) o) (Kx pairs0 s):=by
 obtain ⟨x41,x6⟩:=s
 unfold Ch at h
 try dsimp only at h
 refine Br.od h (fun p11 h=> ?_) (fun p11 h=> ?_)
 ·refine Len.map<|Ask.o h fun p12 h=>Elem.o (by first | omega | (simp [Ak] at * <;> omega))<|SetKids.lit rfl<|CutQ.o (fun t:(Unit ⊕ Unit)=>match t with | (.inl s)=>(Ex.ret,[5,4],[(5,A.val (V.bool (false))),(4,A.val ((rP true (Ag true)) ({ Below:=Ar (List Int) })))]) | (.inr s)=>(Ex.normal,[9,41,40,39,6,4],[(9,A.val ((rP true (rA2 Af)) (nth pairs0 x41.toNat))),(41,A.val (Af (x41))),(40,A.val (Af ((↑pairs0.length:Int)))),(39,A.val ((slr false 2 (rA2 Af)) (pairs0))),(6,A.val ((slr true 1 (slr true 1 V.bool)) (x6))),(4,A.val ((rP true (Ag true)) ({ Below:=Ar (List Int) })))])) h ?_ ?_
  ·intro t h
   refine Ask.mk (by decide)<|Idx.lit<|Cells.lit rfl rfl<|Ask.mk (by decide)<|Idx.lit<|Cells.lit rfl rfl<|BslQ.o Af ([(nth pairs0 x41.toNat).fst,(nth pairs0 x41.toNat).snd]) (by exact fun _=>⟨rfl,rfl⟩) (by first | rfl | (simp only [Aa,V.fz,fzL,V.up,upL,Ab,Ac,Ad,slr,List.cons_append,List.nil_append];done) | simp [Aa,V.fz,fzL,V.up,upL,Ab,Ac,Ad,slr])<|CallQ.rd V.bool (by first | rfl | simp only [V.fz,Ab,slr] | simp [Aa,V.fz,fzL,V.up,upL,Ab,Ac,Ad,slr]) (fun _=>rfl) h (fun r h=>X0 h) (fun r13 h=> ?_)
   refine Br.flip<|Br.ob h (fun p14 h=> ?_) (fun p14 h=> ?_)
   ·refine Ask.mk (by decide)<|Idx.lit<|Br.no<|Cells.lit rfl rfl<|Br.no<|Ask.mk (by decide)<|Idx.lit<|Br.no<|Cells.lit rfl rfl<|Br.no<|Br.no<|Br.oe h (fun p15 h=> ?_) (fun p15 h=> ?_)
    ·refine SetKids.lit rfl ?_
     cases h;exact ⟨rfl,rfl⟩
    cases h;exact ⟨rfl,rfl⟩
   refine Br.yes<|Br.yes<|Br.yes<|Br.yes<|Br.yes<|Br.yes<|SetKids.lit rfl ?_
   cases h;exact ⟨rfl,rfl⟩
  rintro (⟨⟩ | ⟨⟩) h
  ·try dsimp only at h
   cases h;exact ⟨rfl,rfl⟩
  try dsimp only at h
  refine Ask.mk (by decide)<|Idx.lit<|Cells.lit rfl rfl<|Len.map<|Ask.o h fun p17 h=>Cells.one (fun _=>⟨rfl,rfl⟩) (by first | omega | (simp [Ak] at * <;> omega))<|Ask.mk (by decide)<|Idx.lit<|Cells.lit rfl rfl<|Kid.one (fun _=>⟨rfl,rfl⟩) (by first | omega | (simp [Ak] at * <;> omega))<|Len.map<|Ask.o h fun p18 h=>Kid.one (fun _=>⟨rfl,rfl⟩) (by first | omega | (simp [Ak] at * <;> omega))<|SetKids.one (fun _=>⟨rfl,rfl⟩) (true) (by rfl) (by first | omega | (simp [Ak] at * <;> omega))<|Kid.one (fun _=>⟨rfl,rfl⟩) (by first | omega | (simp [Ak] at * <;> omega))<|SetKids.one (fun _=>⟨rfl,rfl⟩) ((nth x6 (nth pairs0 x41.toNat).fst.toNat).set (nth pairs0 x41.toNat).snd.toNat true) (by rfl) (by first | omega | (simp [Ak] at * <;> omega))<|Ask.o h fun p19 h=> ?_
  cases h;exact ⟨rfl,rfl⟩
 cases h;exact ⟨rfl,rfl⟩
noncomputable def Do (_q20_6:List (List Bool)) (x72:Int) (_x6:List (List Bool)) (x77:Int) (x6':List (List Bool)):(Int×(List (List Bool)))→Option ((Int×(List (List Bool))) ⊕ (List (List Bool))):=fun (x82,x6'')=>
 if x82<(↑x6'.length:Int) then
 ask ((0:Int)≤x77∧x77<(↑x6''.length:Int)) <|
 ask ((0:Int)≤x77∧x77<(↑x6''.length:Int)) <|
 ask ((0:Int)≤x82∧x82<(↑(nth x6'' x77.toNat).length:Int)) <|
 if (nth (nth x6'' x77.toNat) x82.toNat)=true then
 ask ((0:Int)≤x82∧x82<(↑(nth x6'' x77.toNat).length:Int)) <|
 ask (InI (x82+(1:Int))) <|
 some (.inl (x82+(1:Int),x6''.set x77.toNat ((nth x6'' x77.toNat).set x82.toNat true)))
 else
 ask ((0:Int)≤x77∧x77<(↑x6''.length:Int)) <|
 ask ((0:Int)≤x72∧x72<(↑(nth x6'' x77.toNat).length:Int)) <|
 if (nth (nth x6'' x77.toNat) x72.toNat)=true then
 ask ((0:Int)≤x72∧x72<(↑x6''.length:Int)) <|
 ask ((0:Int)≤x82∧x82<(↑(nth x6'' x72.toNat).length:Int)) <|
 ask ((0:Int)≤x82∧x82<(↑(nth x6'' x77.toNat).length:Int)) <|
 ask (InI (x82+(1:Int))) <|
 some (.inl (x82+(1:Int),x6''.set x77.toNat ((nth x6'' x77.toNat).set x82.toNat (nth (nth x6'' x72.toNat) x82.toNat))))
 else
 ask ((0:Int)≤x82∧x82<(↑(nth x6'' x77.toNat).length:Int)) <|
 ask (InI (x82+(1:Int))) <|
 some (.inl (x82+(1:Int),x6''.set x77.toNat ((nth x6'' x77.toNat).set x82.toNat false)))
 else
 some (.inr x6'')
def Kz (q20_6:List (List Bool)) (x72:Int) (x6:List (List Bool)) (x77:Int) (x6':List (List Bool)):(Int×(List (List Bool)))→St:=fun s=>[(82,A.val (Af s.1)),(81,A.val (Af ((↑x6'.length:Int)))),(11,A.val (Af (x77))),(77,A.val (Af (x77))),(76,A.val (Af ((↑x6.length:Int)))),(10,A.val (Af (x72))),(72,A.val (Af (x72))),(71,A.val (Af ((↑q20_6.length:Int)))),(6,A.val ((slr true 1 (slr true 1 V.bool)) s.2)),(4,A.val ((rP true (Ag true)) ({ Below:=Ar (List Int) })))]
def Rl (q20_6:List (List Bool)) (x72:Int) (x6:List (List Bool)) (x77:Int) (_x6':List (List Bool)):(List (List Bool))→Tgt
 | s=>((Ex.exit 8),[77,76,10,72,71,6,4],[(77,A.val (Af (x77))),(76,A.val (Af ((↑x6.length:Int)))),(10,A.val (Af (x72))),(72,A.val (Af (x72))),(71,A.val (Af ((↑q20_6.length:Int)))),(6,A.val ((slr true 1 (slr true 1 V.bool)) s)),(4,A.val ((rP true (Ag true)) ({ Below:=Ar (List Int) })))])
theorem Acf {q20_6:List (List Bool)} {x72:Int} {x6:List (List Bool)} {x77:Int} {x6':List (List Bool)} (s:(Int×(List (List Bool)))) (o:(Int×(List (List Bool))) ⊕ (List (List Bool))) (h:Do q20_6 x72 x6 x77 x6' s=some o):vc Try.prog R6 (Cc [82,81,11,77,76,10,72,71,6,4] (Kz q20_6 x72 x6 x77 x6') (Rl q20_6 x72 x6 x77 x6') o) (Kz q20_6 x72 x6 x77 x6' s):=by
 obtain ⟨x82,x6''⟩:=s
 unfold Do at h
 try dsimp only at h
 refine Br.od h (fun p23 h=> ?_) (fun p23 h=> ?_)
 ·refine Len.map<|Ask.o h fun p24 h=>Cells.one (fun _=>⟨rfl,rfl⟩) (by first | omega | (simp [Ak] at * <;> omega))<|Len.map<|Ask.o h fun p25 h=>Cells.one (fun _=>⟨rfl,rfl⟩) (by first | omega | (simp [Ak] at * <;> omega))<|Kid.one (fun _=>⟨rfl,rfl⟩) (by first | omega | (simp [Ak] at * <;> omega))<|Len.map<|Ask.o h fun p26 h=>Kid.one (fun _=>⟨rfl,rfl⟩) (by first | omega | (simp [Ak] at * <;> omega))<|Cells.one (fun _=>⟨rfl,rfl⟩) (by first | omega | (simp [Ak] at * <;> omega))<|Br.ob h (fun p27 h=> ?_) (fun p27 h=> ?_)
  ·refine Br.yes<|Br.yes<|Br.yes<|Br.yes<|Br.yes<|Br.yes<|Br.yes<|Br.yes<|Br.yes<|Kid.one (fun _=>⟨rfl,rfl⟩) (by first | omega | (simp [Ak] at * <;> omega))<|Len.map<|Ask.o h fun p28 h=>Kid.one (fun _=>⟨rfl,rfl⟩) (by first | omega | (simp [Ak] at * <;> omega))<|SetKids.one (fun _=>⟨rfl,rfl⟩) (true) (by rfl) (by first | omega | (simp [Ak] at * <;> omega))<|Kid.one (fun _=>⟨rfl,rfl⟩) (by first | omega | (simp [Ak] at * <;> omega))<|SetKids.one (fun _=>⟨rfl,rfl⟩) ((nth x6'' x77.toNat).set x82.toNat true) (by rfl) (by first | omega | (simp [Ak] at * <;> omega))<|Ask.o h fun p29 h=> ?_
   cases h;exact ⟨rfl,rfl⟩
  refine Br.no<|Br.no<|Len.map<|Ask.o h fun p30 h=>Br.no<|Cells.one (fun _=>⟨rfl,rfl⟩) (by first | omega | (simp [Ak] at * <;> omega))<|Br.no<|Br.no<|Kid.one (fun _=>⟨rfl,rfl⟩) (by first | omega | (simp [Ak] at * <;> omega))<|Len.map<|Ask.o h fun p31 h=>Br.no<|Kid.one (fun _=>⟨rfl,rfl⟩) (by first | omega | (simp [Ak] at * <;> omega))<|Cells.one (fun _=>⟨rfl,rfl⟩) (by first | omega | (simp [Ak] at * <;> omega))<|Br.no<|Br.ob h (fun p32 h=> ?_) (fun p32 h=> ?_)
  ·refine Br.yes<|Br.yes<|Len.map<|Ask.o h fun p33 h=>Br.yes<|Cells.one (fun _=>⟨rfl,rfl⟩) (by first | omega | (simp [Ak] at * <;> omega))<|Br.yes<|Br.yes<|Kid.one (fun _=>⟨rfl,rfl⟩) (by first | omega | (simp [Ak] at * <;> omega))<|Len.map<|Ask.o h fun p34 h=>Br.yes<|Kid.one (fun _=>⟨rfl,rfl⟩) (by first | omega | (simp [Ak] at * <;> omega))<|Cells.one (fun _=>⟨rfl,rfl⟩) (by first | omega | (simp [Ak] at * <;> omega))<|Br.no<|Br.yes<|Br.no<|Kid.one (fun _=>⟨rfl,rfl⟩) (by first | omega | (simp [Ak] at * <;> omega))<|Len.map<|Ask.o h fun p35 h=>Kid.one (fun _=>⟨rfl,rfl⟩) (by first | omega | (simp [Ak] at * <;> omega))<|SetKids.one (fun _=>⟨rfl,rfl⟩) (nth (nth x6'' x72.toNat) x82.toNat) (by rfl) (by first | omega | (simp [Ak] at * <;> omega))<|Kid.one (fun _=>⟨rfl,rfl⟩) (by first | omega | (simp [Ak] at * <;> omega))<|SetKids.one (fun _=>⟨rfl,rfl⟩) ((nth x6'' x77.toNat).set x82.toNat (nth (nth x6'' x72.toNat) x82.toNat)) (by rfl) (by first | omega | (simp [Ak] at * <;> omega))<|Ask.o h fun p36 h=> ?_
   cases h;exact ⟨rfl,rfl⟩
  refine Br.no<|Br.no<|Br.no<|Br.no<|Br.no<|Br.no<|Br.no<|Br.no<|Br.no<|Kid.one (fun _=>⟨rfl,rfl⟩) (by first | omega | (simp [Ak] at * <;> omega))<|Len.map<|Ask.o h fun p37 h=>Kid.one (fun _=>⟨rfl,rfl⟩) (by first | omega | (simp [Ak] at * <;> omega))<|SetKids.one (fun _=>⟨rfl,rfl⟩) (false) (by rfl) (by first | omega | (simp [Ak] at * <;> omega))<|Kid.one (fun _=>⟨rfl,rfl⟩) (by first | omega | (simp [Ak] at * <;> omega))<|SetKids.one (fun _=>⟨rfl,rfl⟩) ((nth x6'' x77.toNat).set x82.toNat false) (by rfl) (by first | omega | (simp [Ak] at * <;> omega))<|Ask.o h fun p38 h=> ?_
  cases h;exact ⟨rfl,rfl⟩
 cases h;exact ⟨rfl,rfl⟩
noncomputable def Dq (q20_6:List (List Bool)) (x72:Int) (x6:List (List Bool)):(Int×(List (List Bool)))→Option ((Int×(List (List Bool))) ⊕ (List (List Bool))):=fun (x77,x6')=>
 if x77<(↑x6.length:Int) then
 (Aj (Do q20_6 x72 x6 x77 x6') ((0:Int),x6')).bind fun q39_6=>
 ask (InI (x77+(1:Int))) <|
 some (.inl (x77+(1:Int),q39_6))
 else
 some (.inr x6')
def Lk (q20_6:List (List Bool)) (x72:Int) (x6:List (List Bool)):(Int×(List (List Bool)))→St:=fun s=>[(77,A.val (Af s.1)),(76,A.val (Af ((↑x6.length:Int)))),(10,A.val (Af (x72))),(72,A.val (Af (x72))),(71,A.val (Af ((↑q20_6.length:Int)))),(6,A.val ((slr true 1 (slr true 1 V.bool)) s.2)),(4,A.val ((rP true (Ag true)) ({ Below:=Ar (List Int) })))]
def Sb (q20_6:List (List Bool)) (x72:Int) (_x6:List (List Bool)):(List (List Bool))→Tgt
 | s=>((Ex.exit 6),[72,71,6,4],[(72,A.val (Af (x72))),(71,A.val (Af ((↑q20_6.length:Int)))),(6,A.val ((slr true 1 (slr true 1 V.bool)) s)),(4,A.val ((rP true (Ag true)) ({ Below:=Ar (List Int) })))])
theorem Ab1 {q20_6:List (List Bool)} {x72:Int} {x6:List (List Bool)} (s:(Int×(List (List Bool)))) (o:(Int×(List (List Bool))) ⊕ (List (List Bool))) (h:Dq q20_6 x72 x6 s=some o):vc Try.prog Sa (Cc [77,76,10,72,71,6,4] (Lk q20_6 x72 x6) (Sb q20_6 x72 x6) o) (Lk q20_6 x72 x6 s):=by
 obtain ⟨x77,x6'⟩:=s
 unfold Dq at h
 try dsimp only at h
 refine Br.od h (fun p22 h=> ?_) (fun p22 h=> ?_)
 ·refine Len.map<|LoopQ.o [82,81,11,77,76,10,72,71,6,4] (Kz q20_6 x72 x6 x77 x6') (Rl q20_6 x72 x6 x77 x6') h (fun s o h=>Acf s o h) (by rfl) (fun _=>rfl) ?_
  rintro q39_6 h
  try dsimp only at h
  refine Ask.o h fun p40 h=> ?_
  cases h;exact ⟨rfl,rfl⟩
 cases h;exact ⟨rfl,rfl⟩
noncomputable def Dp (q20_6:List (List Bool)):(Int×(List (List Bool)))→Option ((Int×(List (List Bool))) ⊕ (List (List Bool))):=fun (x72,x6)=>
 if x72<(↑q20_6.length:Int) then
 (Aj (Dq q20_6 x72 x6) ((0:Int),x6)).bind fun q41_6=>
 ask (InI (x72+(1:Int))) <|
 some (.inl (x72+(1:Int),q41_6))
 else
 some (.inr x6)
def Kq (q20_6:List (List Bool)):(Int×(List (List Bool)))→St:=fun s=>[(72,A.val (Af s.1)),(71,A.val (Af ((↑q20_6.length:Int)))),(6,A.val ((slr true 1 (slr true 1 V.bool)) s.2)),(4,A.val ((rP true (Ag true)) ({ Below:=Ar (List Int) })))]
def Rq (_q20_6:List (List Bool)):(List (List Bool))→Tgt
 | s=>((Ex.exit 4),[6,4],[(6,A.val ((slr true 1 (slr true 1 V.bool)) s)),(4,A.val ((rP true (Ag true)) ({ Below:=Ar (List Int) })))])
theorem Acr {q20_6:List (List Bool)} (s:(Int×(List (List Bool)))) (o:(Int×(List (List Bool))) ⊕ (List (List Bool))) (h:Dp q20_6 s=some o):vc Try.prog R7 (Cc [72,71,6,4] (Kq q20_6) (Rq q20_6) o) (Kq q20_6 s):=by
 obtain ⟨x72,x6⟩:=s
 unfold Dp at h
 try dsimp only at h
 refine Br.od h (fun p21 h=> ?_) (fun p21 h=> ?_)
 ·refine Len.map<|LoopQ.o [77,76,10,72,71,6,4] (Lk q20_6 x72 x6) (Sb q20_6 x72 x6) h (fun s o h=>Ab1 s o h) (by rfl) (fun _=>rfl) ?_
  rintro q41_6 h
  try dsimp only at h
  refine Ask.o h fun p42 h=> ?_
  cases h;exact ⟨rfl,rfl⟩
 cases h;exact ⟨rfl,rfl⟩
noncomputable def H8 (n0:Int) (pairs0:(List (Int×Int))):Option (SPoset×Bool):=
 ((if n0<(0:Int) then
 some (.inl ())
 else
 if n0>(10:Int) then
 some (.inl ())
 else
 if (↑pairs0.length:Int)>(60:Int) then
 some (.inl ())
 else
 some (.inr ()):Option (Unit ⊕ Unit))).bind fun t=>match t with
 | (.inl _)=>(some ({ Below:=Ar (List Int) },false))
 | (.inr _)=>((Gw (n0)).bind fun r5=>
 (Aj (Dm pairs0 r5) ((0:Int),r5)).bind fun q10_6=>
 (Aj (Ch pairs0) ((0:Int),q10_6)).bind fun t=>match t with
 | (.inl _)=>(some ({ Below:=Ar (List Int) },false))
 | (.inr q20_6)=>((Aj (Dp q20_6) ((0:Int),q20_6)).bind fun q43_6=>
 (El (q43_6)).bind fun r44=>
 if (r44)=true then
 (F1 (q43_6)).bind fun r46=>
 some (r46,true)
 else
 some ({ Below:=Ar (List Int) },false)))
theorem Ahq {n0:Int} {pairs0:(List (Int×Int))} {v:(SPoset×Bool)} (h:H8 n0 pairs0=some v):Ret Try.prog Pz [Af n0,(slr false 2 (rA2 Af)) pairs0] ((fun r=>V.tup [(Ag true) r.1,V.bool r.2]) v):=by
 refine A6 Ai9 (Nat.le_of_ble_eq_true rfl) ?_
 unfold H8 at h
 refine CutQ.o (fun t:(Unit ⊕ Unit)=>match t with | (.inl s)=>(Ex.ret,[5,4],[(5,A.val (V.bool (false))),(4,A.val ((rP true (Ag true)) ({ Below:=Ar (List Int) })))]) | (.inr s)=>(Ex.normal,[4,0,1],[(4,A.val ((rP true (Ag true)) ({ Below:=Ar (List Int) }))),(0,A.val (Af (n0))),(1,A.val ((slr false 2 (rA2 Af)) (pairs0)))])) h ?_ ?_
 ·intro t h
  refine Br.od h (fun p1 h=> ?_) (fun p1 h=> ?_)
  ·refine Br.yes<|Br.yes<|Br.yes<|Br.yes<|Br.yes<|Br.yes<|Br.yes<|SetKids.lit rfl ?_
   cases h;exact ⟨rfl,rfl⟩
  refine Br.no<|Br.no<|Br.od h (fun p2 h=> ?_) (fun p2 h=> ?_)
  ·refine Br.yes<|Br.yes<|Br.yes<|Br.yes<|SetKids.lit rfl ?_
   cases h;exact ⟨rfl,rfl⟩
  refine Br.no<|Len.map<|Br.no<|Br.no<|Br.od h (fun p3 h=> ?_) (fun p3 h=> ?_)
  ·refine SetKids.lit rfl ?_
   cases h;exact ⟨rfl,rfl⟩
  cases h;exact ⟨rfl,rfl⟩
 rintro (⟨⟩ | ⟨⟩) h
 ·try dsimp only at h
  cases h;exact (by rfl)
 try dsimp only at h
 refine CallQ.o (slr true 1 (slr true 1 V.bool)) (by rfl) h (fun r h=>So h) (fun r5 h=> ?_)
 refine Len.map<|LoopQ.o [29,28,6,4,1] (Lb pairs0 r5) (Rn pairs0 r5) h (fun s o h=>Acg s o h) (by rfl) (fun _=>rfl) ?_
 rintro q10_6 h
 try dsimp only at h
 refine Len.map<|LoopQ.o [41,40,39,6,4] (Kx pairs0) (Sf pairs0) h (fun s o h=>Abt s o h) (by rfl) (by rintro (_ | _)<;>rfl) ?_
 rintro (⟨⟩ | q20_6) h
 ·try dsimp only at h
  cases h;exact (by rfl)
 try dsimp only at h
 refine Len.map<|LoopQ.o [72,71,6,4] (Kq q20_6) (Rq q20_6) h (fun s o h=>Acr s o h) (by rfl) (fun _=>rfl) ?_
 rintro q43_6 h
 try dsimp only at h
 refine CallQ.rd V.bool (by first | rfl | simp only [V.fz,Ab,slr] | simp [Aa,V.fz,fzL,V.up,upL,Ab,Ac,Ad,slr]) (fun _=>rfl) h (fun r h=>Rz h) (fun r44 h=> ?_)
 refine Br.flip<|Br.ob h (fun p45 h=> ?_) (fun p45 h=> ?_)
 ·refine CallQ.rd (Ag true) (by first | rfl | simp only [V.fz,Ab,slr] | simp [Aa,V.fz,fzL,V.up,upL,Ab,Ac,Ad,slr]) (fun _=>by simp [V.noFz,Ct,Cu]) h (fun r h=>Uh h) (fun r46 h=> ?_)
  refine SetKids.lit rfl ?_
  cases h;exact (by rfl)
 refine SetKids.lit rfl ?_
 cases h;exact (by rfl)
noncomputable def Hd (p0:SPoset):Option (SPoset×Bool):=
 (Bj (p0)).bind fun r1=>
 if (r1.snd)=true then
 (Ij (r1.fst)).bind fun r3=>
 (F1 (r3)).bind fun r4=>
 some (r4,true)
 else
 some ({ Below:=Ar (List Int) },false)
theorem Yx {p0:SPoset} {v:(SPoset×Bool)} (h:Hd p0=some v):Ret Try.prog L1 [(Ag false) p0] ((fun r=>V.tup [(Ag true) r.1,V.bool r.2]) v):=by
 refine A6 Ajt (Nat.le_of_ble_eq_true rfl) ?_
 unfold Hd at h
 refine Cells.lit rfl rfl<|CallQ.o (fun r=>V.tup [(slr true 1 (slr true 1 V.bool)) r.1,V.bool r.2]) (by rfl) h (fun r h=>Dk h) (fun r1 h=> ?_)
 refine Br.flip<|Br.ob h (fun p2 h=> ?_) (fun p2 h=> ?_)
 ·refine CallQ.rd (slr true 1 (slr true 1 V.bool)) (by first | rfl | simp only [V.fz,Ab,slr] | simp [Aa,V.fz,fzL,V.up,upL,Ab,Ac,Ad,slr]) (fun _=>by simp [V.noFz,Cu]) h (fun r h=>Ag3 h) (fun r3 h=> ?_)
  refine CallQ.rd (Ag true) (by first | rfl | simp only [V.fz,Ab,slr] | simp [Aa,V.fz,fzL,V.up,upL,Ab,Ac,Ad,slr]) (fun _=>by simp [V.noFz,Ct,Cu]) h (fun r h=>Uh h) (fun r4 h=> ?_)
  refine SetKids.lit rfl ?_
  cases h;exact (by rfl)
 refine SetKids.lit rfl ?_
 cases h;exact (by rfl)
end Go.Proofs.Ytpfikenknmlajaa.Ax
