/-
 What the functions compute, as functions on plain data, and that the program does compute it; written by program.
-/
import Derived.Test.YtpfikenknmlajaaCode
namespace Go.Proofs.Ytpfikenknmlajaa.Ax
open Go
set_option maxRecDepth 100000
set_option maxHeartbeats 4000000
noncomputable def E0 (n0:Int) (_pairs0:List (Int×Int)):(Int×(List (List Bool)))→Option ((Int×(List (List Bool))) ⊕ (List (List Bool))):=fun (x6,x5)=>
 if x6<n0 then
 ask ((0:Int)≤n0∧n0≤(↑LIM:Int)) <|
 ask ((0:Int)≤x6∧x6<(↑n0.toNat:Int)) <|
 ask ((x5).length+([(List.replicate n0.toNat false).set x6.toNat true]).length≤LIM) <|
 ask (InI (x6+(1:Int))) <|
 some (.inl (x6+(1:Int),x5++[(List.replicate n0.toNat false).set x6.toNat true]))
 else
 some (.inr x5)
def Ol (n0:Int) (pairs0:List (Int×Int)):(Int×(List (List Bool)))→St:=fun s=>[(6,A.val (Af s.1)),(5,A.val ((slr true 1 (slr true 1 V.bool)) s.2)),(4,A.val ((rP true (Ag true)) ({ Below:=Ar (List Int) }))),(0,A.val (Af (n0))),(1,A.val ((slr false 2 (rA2 Af)) (pairs0)))]
def Wt (n0:Int) (pairs0:List (Int×Int)):(List (List Bool))→Tgt
 | s=>((Ex.exit 0),[5,4,0,1],[(5,A.val ((slr true 1 (slr true 1 V.bool)) s)),(4,A.val ((rP true (Ag true)) ({ Below:=Ar (List Int) }))),(0,A.val (Af (n0))),(1,A.val ((slr false 2 (rA2 Af)) (pairs0)))])
theorem Aha {n0:Int} {pairs0:List (Int×Int)} (s:(Int×(List (List Bool)))) (o:(Int×(List (List Bool))) ⊕ (List (List Bool))) (h:E0 n0 pairs0 s=some o):vc Try.prog V1 (Cc [6,5,4,0,1] (Ol n0 pairs0) (Wt n0 pairs0) o) (Ol n0 pairs0 s):=by
 obtain ⟨x6,x5⟩:=s
 unfold E0 at h
 try dsimp only at h
 refine Br.od h (fun p1 h=> ?_) (fun p1 h=> ?_)
 ·refine Ask.o h fun p2 h=>MkQ.o V.bool (false) rfl<|Len.mrep<|Ask.o h fun p3 h=>SetKids.one (fun _=>⟨rfl,rfl⟩) (true) (by rfl) (by first | omega | (simp [Ak] at * <;> omega))<|BslQ.o (slr true 1 V.bool) ([(List.replicate n0.toNat false).set x6.toNat true]) (by exact fun _=>⟨rfl,rfl⟩) (by first | rfl | (simp only [Aa,V.fz,fzL,V.up,upL,Ab,Ac,Ad,slr,List.cons_append,List.nil_append];done) | simp [Aa,V.fz,fzL,V.up,upL,Ab,Ac,Ad,slr])<|NoOwn.own rfl<|AppQ.o (m:=1) (slr true 1 V.bool) (by exact fun _=>⟨rfl,rfl⟩) (x5) ([(List.replicate n0.toNat false).set x6.toNat true]) (by rfl) (by rfl) h fun h=>Ask.o h fun p4 h=> ?_
  cases h;exact ⟨rfl,rfl⟩
 cases h;exact ⟨rfl,rfl⟩
noncomputable def Ff (_n0:Int) (pairs0:List (Int×Int)):(Int×(List (List Bool)))→Option ((Int×(List (List Bool))) ⊕ (List (List Bool))):=fun (x8,x5)=>
 if x8<(↑pairs0.length:Int) then
 ask ((0:Int)≤x8∧x8<(↑pairs0.length:Int)) <|
 ask ((0:Int)≤(nth pairs0 x8.toNat).fst∧(nth pairs0 x8.toNat).fst<(↑x5.length:Int)) <|
 ask ((0:Int)≤x8∧x8<(↑pairs0.length:Int)) <|
 ask ((0:Int)≤(nth pairs0 x8.toNat).snd∧(nth pairs0 x8.toNat).snd<(↑(nth x5 (nth pairs0 x8.toNat).fst.toNat).length:Int)) <|
 ask (InI (x8+(1:Int))) <|
 some (.inl (x8+(1:Int),x5.set (nth pairs0 x8.toNat).fst.toNat ((nth x5 (nth pairs0 x8.toNat).fst.toNat).set (nth pairs0 x8.toNat).snd.toNat true)))
 else
 some (.inr x5)
def Pk (n0:Int) (pairs0:List (Int×Int)):(Int×(List (List Bool)))→St:=fun s=>[(8,A.val (Af s.1)),(5,A.val ((slr true 1 (slr true 1 V.bool)) s.2)),(4,A.val ((rP true (Ag true)) ({ Below:=Ar (List Int) }))),(0,A.val (Af (n0))),(1,A.val ((slr false 2 (rA2 Af)) (pairs0)))]
def Vl (n0:Int) (_pairs0:List (Int×Int)):(List (List Bool))→Tgt
 | s=>((Ex.exit 2),[5,4,0],[(5,A.val ((slr true 1 (slr true 1 V.bool)) s)),(4,A.val ((rP true (Ag true)) ({ Below:=Ar (List Int) }))),(0,A.val (Af (n0)))])
theorem Ai6 {n0:Int} {pairs0:List (Int×Int)} (s:(Int×(List (List Bool)))) (o:(Int×(List (List Bool))) ⊕ (List (List Bool))) (h:Ff n0 pairs0 s=some o):vc Try.prog Wv (Cc [8,5,4,0,1] (Pk n0 pairs0) (Vl n0 pairs0) o) (Pk n0 pairs0 s):=by
 obtain ⟨x8,x5⟩:=s
 unfold Ff at h
 try dsimp only at h
 refine Len.map<|Br.od h (fun p6 h=> ?_) (fun p6 h=> ?_)
 ·refine Len.map<|Ask.o h fun p7 h=>Elem.o (by first | omega | (simp [Ak] at * <;> omega))<|Ask.mk (by decide)<|Idx.lit<|Len.map<|Ask.o h fun p8 h=>Cells.one (fun _=>⟨rfl,rfl⟩) (by first | omega | (simp [Ak] at * <;> omega))<|Len.map<|Ask.o h fun p9 h=>Elem.o (by first | omega | (simp [Ak] at * <;> omega))<|Ask.mk (by decide)<|Idx.lit<|Kid.one (fun _=>⟨rfl,rfl⟩) (by first | omega | (simp [Ak] at * <;> omega))<|Len.map<|Ask.o h fun p10 h=>Kid.one (fun _=>⟨rfl,rfl⟩) (by first | omega | (simp [Ak] at * <;> omega))<|SetKids.one (fun _=>⟨rfl,rfl⟩) (true) (by rfl) (by first | omega | (simp [Ak] at * <;> omega))<|Kid.one (fun _=>⟨rfl,rfl⟩) (by first | omega | (simp [Ak] at * <;> omega))<|SetKids.one (fun _=>⟨rfl,rfl⟩) ((nth x5 (nth pairs0 x8.toNat).fst.toNat).set (nth pairs0 x8.toNat).snd.toNat true) (by rfl) (by first | omega | (simp [Ak] at * <;> omega))<|Ask.o h fun p11 h=> ?_
  cases h;exact ⟨rfl,rfl⟩
 cases h;exact ⟨rfl,rfl⟩
noncomputable def Fe (n0:Int) (x9:Int) (x10:Int):(Int×(List (List Bool)))→Option ((Int×(List (List Bool))) ⊕ (List (List Bool))):=fun (x11,x5'')=>
 if x11<n0 then
 ask ((0:Int)≤x10∧x10<(↑x5''.length:Int)) <|
 ask ((0:Int)≤x10∧x10<(↑x5''.length:Int)) <|
 ask ((0:Int)≤x11∧x11<(↑(nth x5'' x10.toNat).length:Int)) <|
 if (nth (nth x5'' x10.toNat) x11.toNat)=true then
 ask ((0:Int)≤x11∧x11<(↑(nth x5'' x10.toNat).length:Int)) <|
 ask (InI (x11+(1:Int))) <|
 some (.inl (x11+(1:Int),x5''.set x10.toNat ((nth x5'' x10.toNat).set x11.toNat true)))
 else
 ask ((0:Int)≤x10∧x10<(↑x5''.length:Int)) <|
 ask ((0:Int)≤x9∧x9<(↑(nth x5'' x10.toNat).length:Int)) <|
 if (nth (nth x5'' x10.toNat) x9.toNat)=true then
 ask ((0:Int)≤x9∧x9<(↑x5''.length:Int)) <|
 ask ((0:Int)≤x11∧x11<(↑(nth x5'' x9.toNat).length:Int)) <|
 ask ((0:Int)≤x11∧x11<(↑(nth x5'' x10.toNat).length:Int)) <|
 ask (InI (x11+(1:Int))) <|
 some (.inl (x11+(1:Int),x5''.set x10.toNat ((nth x5'' x10.toNat).set x11.toNat (nth (nth x5'' x9.toNat) x11.toNat))))
 else
 ask ((0:Int)≤x11∧x11<(↑(nth x5'' x10.toNat).length:Int)) <|
 ask (InI (x11+(1:Int))) <|
 some (.inl (x11+(1:Int),x5''.set x10.toNat ((nth x5'' x10.toNat).set x11.toNat false)))
 else
 some (.inr x5'')
def Pm (n0:Int) (x9:Int) (x10:Int):(Int×(List (List Bool)))→St:=fun s=>[(11,A.val (Af s.1)),(10,A.val (Af (x10))),(9,A.val (Af (x9))),(5,A.val ((slr true 1 (slr true 1 V.bool)) s.2)),(4,A.val ((rP true (Ag true)) ({ Below:=Ar (List Int) }))),(0,A.val (Af (n0)))]
def W8 (n0:Int) (x9:Int) (x10:Int):(List (List Bool))→Tgt
 | s=>((Ex.exit 8),[10,9,5,4,0],[(10,A.val (Af (x10))),(9,A.val (Af (x9))),(5,A.val ((slr true 1 (slr true 1 V.bool)) s)),(4,A.val ((rP true (Ag true)) ({ Below:=Ar (List Int) }))),(0,A.val (Af (n0)))])
theorem Ag2 {n0:Int} {x9:Int} {x10:Int} (s:(Int×(List (List Bool)))) (o:(Int×(List (List Bool))) ⊕ (List (List Bool))) (h:Fe n0 x9 x10 s=some o):vc Try.prog Wm (Cc [11,10,9,5,4,0] (Pm n0 x9 x10) (W8 n0 x9 x10) o) (Pm n0 x9 x10 s):=by
 obtain ⟨x11,x5''⟩:=s
 unfold Fe at h
 try dsimp only at h
 refine Br.od h (fun p15 h=> ?_) (fun p15 h=> ?_)
 ·refine Len.map<|Ask.o h fun p16 h=>Cells.one (fun _=>⟨rfl,rfl⟩) (by first | omega | (simp [Ak] at * <;> omega))<|Len.map<|Ask.o h fun p17 h=>Cells.one (fun _=>⟨rfl,rfl⟩) (by first | omega | (simp [Ak] at * <;> omega))<|Kid.one (fun _=>⟨rfl,rfl⟩) (by first | omega | (simp [Ak] at * <;> omega))<|Len.map<|Ask.o h fun p18 h=>Kid.one (fun _=>⟨rfl,rfl⟩) (by first | omega | (simp [Ak] at * <;> omega))<|Cells.one (fun _=>⟨rfl,rfl⟩) (by first | omega | (simp [Ak] at * <;> omega))<|Br.ob h (fun p19 h=> ?_) (fun p19 h=> ?_)
  ·refine Br.yes<|Br.yes<|Br.yes<|Br.yes<|Br.yes<|Br.yes<|Br.yes<|Br.yes<|Br.yes<|Kid.one (fun _=>⟨rfl,rfl⟩) (by first | omega | (simp [Ak] at * <;> omega))<|Len.map<|Ask.o h fun p20 h=>Kid.one (fun _=>⟨rfl,rfl⟩) (by first | omega | (simp [Ak] at * <;> omega))<|SetKids.one (fun _=>⟨rfl,rfl⟩) (true) (by rfl) (by first | omega | (simp [Ak] at * <;> omega))<|Kid.one (fun _=>⟨rfl,rfl⟩) (by first | omega | (simp [Ak] at * <;> omega))<|SetKids.one (fun _=>⟨rfl,rfl⟩) ((nth x5'' x10.toNat).set x11.toNat true) (by rfl) (by first | omega | (simp [Ak] at * <;> omega))<|Ask.o h fun p21 h=> ?_
   cases h;exact ⟨rfl,rfl⟩
  refine Br.no<|Br.no<|Len.map<|Ask.o h fun p22 h=>Br.no<|Cells.one (fun _=>⟨rfl,rfl⟩) (by first | omega | (simp [Ak] at * <;> omega))<|Br.no<|Br.no<|Kid.one (fun _=>⟨rfl,rfl⟩) (by first | omega | (simp [Ak] at * <;> omega))<|Len.map<|Ask.o h fun p23 h=>Br.no<|Kid.one (fun _=>⟨rfl,rfl⟩) (by first | omega | (simp [Ak] at * <;> omega))<|Cells.one (fun _=>⟨rfl,rfl⟩) (by first | omega | (simp [Ak] at * <;> omega))<|Br.no<|Br.ob h (fun p24 h=> ?_) (fun p24 h=> ?_)
  ·refine Br.yes<|Br.yes<|Len.map<|Ask.o h fun p25 h=>Br.yes<|Cells.one (fun _=>⟨rfl,rfl⟩) (by first | omega | (simp [Ak] at * <;> omega))<|Br.yes<|Br.yes<|Kid.one (fun _=>⟨rfl,rfl⟩) (by first | omega | (simp [Ak] at * <;> omega))<|Len.map<|Ask.o h fun p26 h=>Br.yes<|Kid.one (fun _=>⟨rfl,rfl⟩) (by first | omega | (simp [Ak] at * <;> omega))<|Cells.one (fun _=>⟨rfl,rfl⟩) (by first | omega | (simp [Ak] at * <;> omega))<|Br.no<|Br.yes<|Br.no<|Kid.one (fun _=>⟨rfl,rfl⟩) (by first | omega | (simp [Ak] at * <;> omega))<|Len.map<|Ask.o h fun p27 h=>Kid.one (fun _=>⟨rfl,rfl⟩) (by first | omega | (simp [Ak] at * <;> omega))<|SetKids.one (fun _=>⟨rfl,rfl⟩) (nth (nth x5'' x9.toNat) x11.toNat) (by rfl) (by first | omega | (simp [Ak] at * <;> omega))<|Kid.one (fun _=>⟨rfl,rfl⟩) (by first | omega | (simp [Ak] at * <;> omega))<|SetKids.one (fun _=>⟨rfl,rfl⟩) ((nth x5'' x10.toNat).set x11.toNat (nth (nth x5'' x9.toNat) x11.toNat)) (by rfl) (by first | omega | (simp [Ak] at * <;> omega))<|Ask.o h fun p28 h=> ?_
   cases h;exact ⟨rfl,rfl⟩
  refine Br.no<|Br.no<|Br.no<|Br.no<|Br.no<|Br.no<|Br.no<|Br.no<|Br.no<|Kid.one (fun _=>⟨rfl,rfl⟩) (by first | omega | (simp [Ak] at * <;> omega))<|Len.map<|Ask.o h fun p29 h=>Kid.one (fun _=>⟨rfl,rfl⟩) (by first | omega | (simp [Ak] at * <;> omega))<|SetKids.one (fun _=>⟨rfl,rfl⟩) (false) (by rfl) (by first | omega | (simp [Ak] at * <;> omega))<|Kid.one (fun _=>⟨rfl,rfl⟩) (by first | omega | (simp [Ak] at * <;> omega))<|SetKids.one (fun _=>⟨rfl,rfl⟩) ((nth x5'' x10.toNat).set x11.toNat false) (by rfl) (by first | omega | (simp [Ak] at * <;> omega))<|Ask.o h fun p30 h=> ?_
  cases h;exact ⟨rfl,rfl⟩
 cases h;exact ⟨rfl,rfl⟩
noncomputable def E8 (n0:Int) (x9:Int):(Int×(List (List Bool)))→Option ((Int×(List (List Bool))) ⊕ (List (List Bool))):=fun (x10,x5')=>
 if x10<n0 then
 (Aj (Fe n0 x9 x10) ((0:Int),x5')).bind fun q31_5=>
 ask (InI (x10+(1:Int))) <|
 some (.inl (x10+(1:Int),q31_5))
 else
 some (.inr x5')
def Ox (n0:Int) (x9:Int):(Int×(List (List Bool)))→St:=fun s=>[(10,A.val (Af s.1)),(9,A.val (Af (x9))),(5,A.val ((slr true 1 (slr true 1 V.bool)) s.2)),(4,A.val ((rP true (Ag true)) ({ Below:=Ar (List Int) }))),(0,A.val (Af (n0)))]
def Wg (n0:Int) (x9:Int):(List (List Bool))→Tgt
 | s=>((Ex.exit 6),[9,5,4,0],[(9,A.val (Af (x9))),(5,A.val ((slr true 1 (slr true 1 V.bool)) s)),(4,A.val ((rP true (Ag true)) ({ Below:=Ar (List Int) }))),(0,A.val (Af (n0)))])
theorem Aiu {n0:Int} {x9:Int} (s:(Int×(List (List Bool)))) (o:(Int×(List (List Bool))) ⊕ (List (List Bool))) (h:E8 n0 x9 s=some o):vc Try.prog Wf (Cc [10,9,5,4,0] (Ox n0 x9) (Wg n0 x9) o) (Ox n0 x9 s):=by
 obtain ⟨x10,x5'⟩:=s
 unfold E8 at h
 try dsimp only at h
 refine Br.od h (fun p14 h=> ?_) (fun p14 h=> ?_)
 ·refine LoopQ.o [11,10,9,5,4,0] (Pm n0 x9 x10) (W8 n0 x9 x10) h (fun s o h=>Ag2 s o h) (by rfl) (fun _=>rfl) ?_
  rintro q31_5 h
  try dsimp only at h
  refine Ask.o h fun p32 h=> ?_
  cases h;exact ⟨rfl,rfl⟩
 cases h;exact ⟨rfl,rfl⟩
noncomputable def E9 (n0:Int):(Int×(List (List Bool)))→Option ((Int×(List (List Bool))) ⊕ (List (List Bool))):=fun (x9,x5)=>
 if x9<n0 then
 (Aj (E8 n0 x9) ((0:Int),x5)).bind fun q33_5=>
 ask (InI (x9+(1:Int))) <|
 some (.inl (x9+(1:Int),q33_5))
 else
 some (.inr x5)
def Om (n0:Int):(Int×(List (List Bool)))→St:=fun s=>[(9,A.val (Af s.1)),(5,A.val ((slr true 1 (slr true 1 V.bool)) s.2)),(4,A.val ((rP true (Ag true)) ({ Below:=Ar (List Int) }))),(0,A.val (Af (n0)))]
def Vq (n0:Int):(List (List Bool))→Tgt
 | s=>((Ex.exit 4),[5,4,0],[(5,A.val ((slr true 1 (slr true 1 V.bool)) s)),(4,A.val ((rP true (Ag true)) ({ Below:=Ar (List Int) }))),(0,A.val (Af (n0)))])
theorem Ah7 {n0:Int} (s:(Int×(List (List Bool)))) (o:(Int×(List (List Bool))) ⊕ (List (List Bool))) (h:E9 n0 s=some o):vc Try.prog Vj (Cc [9,5,4,0] (Om n0) (Vq n0) o) (Om n0 s):=by
 obtain ⟨x9,x5⟩:=s
 unfold E9 at h
 try dsimp only at h
 refine Br.od h (fun p13 h=> ?_) (fun p13 h=> ?_)
 ·refine LoopQ.o [10,9,5,4,0] (Ox n0 x9) (Wg n0 x9) h (fun s o h=>Aiu s o h) (by rfl) (fun _=>rfl) ?_
  rintro q33_5 h
  try dsimp only at h
  refine Ask.o h fun p34 h=> ?_
  cases h;exact ⟨rfl,rfl⟩
 cases h;exact ⟨rfl,rfl⟩
noncomputable def E5 (n0:Int) (q35_5:List (List Bool)) (x13:Int) (_x12:SPoset):(Int×(List Int))→Option ((Int×(List Int)) ⊕ (List Int)):=fun (x15,x14)=>
 if x15<n0 then
 ask ((0:Int)≤x15∧x15<(↑q35_5.length:Int)) <|
 ask ((0:Int)≤x13∧x13<(↑(nth q35_5 x15.toNat).length:Int)) <|
 if (nth (nth q35_5 x15.toNat) x13.toNat)=true then
 ask ((x14).length+([x15]).length≤LIM) <|
 ask (InI (x15+(1:Int))) <|
 some (.inl (x15+(1:Int),x14++[x15]))
 else
 ask (InI (x15+(1:Int))) <|
 some (.inl (x15+(1:Int),x14))
 else
 some (.inr x14)
def Of (n0:Int) (q35_5:List (List Bool)) (x13:Int) (x12:SPoset):(Int×(List Int))→St:=fun s=>[(15,A.val (Af s.1)),(14,A.val ((slr true 1 Af) s.2)),(13,A.val (Af (x13))),(12,A.val ((rP true (Ag true)) (x12))),(5,A.val ((slr true 1 (slr true 1 V.bool)) (q35_5))),(4,A.val ((rP true (Ag true)) ({ Below:=Ar (List Int) }))),(0,A.val (Af (n0)))]
def Vp (n0:Int) (q35_5:List (List Bool)) (x13:Int) (x12:SPoset):(List Int)→Tgt
 | s=>((Ex.exit 12),[14,13,12,5,4,0],[(14,A.val ((slr true 1 Af) s)),(13,A.val (Af (x13))),(12,A.val ((rP true (Ag true)) (x12))),(5,A.val ((slr true 1 (slr true 1 V.bool)) (q35_5))),(4,A.val ((rP true (Ag true)) ({ Below:=Ar (List Int) }))),(0,A.val (Af (n0)))])
theorem Aig {n0:Int} {q35_5:List (List Bool)} {x13:Int} {x12:SPoset} (s:(Int×(List Int))) (o:(Int×(List Int)) ⊕ (List Int)) (h:E5 n0 q35_5 x13 x12 s=some o):vc Try.prog V9 (Cc [15,14,13,12,5,4,0] (Of n0 q35_5 x13 x12) (Vp n0 q35_5 x13 x12) o) (Of n0 q35_5 x13 x12 s):=by
 obtain ⟨x15,x14⟩:=s
 unfold E5 at h
 try dsimp only at h
 refine Br.od h (fun p37 h=> ?_) (fun p37 h=> ?_)
 ·refine Len.map<|Ask.o h fun p38 h=>Cells.one (fun _=>⟨rfl,rfl⟩) (by first | omega | (simp [Ak] at * <;> omega))<|Kid.one (fun _=>⟨rfl,rfl⟩) (by first | omega | (simp [Ak] at * <;> omega))<|Len.map<|Ask.o h fun p39 h=>Kid.one (fun _=>⟨rfl,rfl⟩) (by first | omega | (simp [Ak] at * <;> omega))<|Cells.one (fun _=>⟨rfl,rfl⟩) (by first | omega | (simp [Ak] at * <;> omega))<|Br.ob h (fun p40 h=> ?_) (fun p40 h=> ?_)
  ·refine BslQ.o Af [x15] (by exact fun _=>⟨rfl,rfl⟩) (by first | rfl | (simp only [Aa,V.fz,fzL,V.up,upL,Ab,Ac,Ad,slr,List.cons_append,List.nil_append];done) | simp [Aa,V.fz,fzL,V.up,upL,Ab,Ac,Ad,slr])<|NoOwn.o (fun _=>rfl)<|AppQ.o (m:=1) Af (by exact fun _=>⟨rfl,rfl⟩) (x14) ([x15]) (by rfl) (by rfl) h fun h=>Ask.o h fun p41 h=> ?_
   cases h;exact ⟨rfl,rfl⟩
  refine Ask.o h fun p42 h=> ?_
  cases h;exact ⟨rfl,rfl⟩
 cases h;exact ⟨rfl,rfl⟩
noncomputable def Fd (n0:Int) (q35_5:List (List Bool)):(Int×SPoset)→Option ((Int×SPoset) ⊕ SPoset):=fun (x13,x12)=>
 if x13<n0 then
 (Aj (E5 n0 q35_5 x13 x12) ((0:Int),Ar Int)).bind fun q43_14=>
 ask ((x12.Below).length+([q43_14]).length≤LIM) <|
 ask (InI (x13+(1:Int))) <|
 some (.inl (x13+(1:Int),{ Below:=x12.Below++[q43_14] }))
 else
 some (.inr x12)
def Pt (n0:Int) (q35_5:List (List Bool)):(Int×SPoset)→St:=fun s=>[(13,A.val (Af s.1)),(12,A.val ((rP true (Ag true)) s.2)),(5,A.val ((slr true 1 (slr true 1 V.bool)) (q35_5))),(4,A.val ((rP true (Ag true)) ({ Below:=Ar (List Int) }))),(0,A.val (Af (n0)))]
def Wd (_n0:Int) (_q35_5:List (List Bool)):SPoset→Tgt
 | s=>((Ex.exit 10),[12,4],[(12,A.val ((rP true (Ag true)) s)),(4,A.val ((rP true (Ag true)) ({ Below:=Ar (List Int) })))])
theorem Ahn {n0:Int} {q35_5:List (List Bool)} (s:(Int×SPoset)) (o:(Int×SPoset) ⊕ SPoset) (h:Fd n0 q35_5 s=some o):vc Try.prog V8 (Cc [13,12,5,4,0] (Pt n0 q35_5) (Wd n0 q35_5) o) (Pt n0 q35_5 s):=by
 obtain ⟨x13,x12⟩:=s
 unfold Fd at h
 try dsimp only at h
 refine Br.od h (fun p36 h=> ?_) (fun p36 h=> ?_)
 ·refine BslQ.o Af (Ar Int) (by exact fun _=>⟨rfl,rfl⟩) (by first | rfl | (simp only [Aa,V.fz,fzL,V.up,upL,Ab,Ac,Ad,slr,List.cons_append,List.nil_append];done) | simp [Aa,V.fz,fzL,V.up,upL,Ab,Ac,Ad,slr])<|LoopQ.o [15,14,13,12,5,4,0] (Of n0 q35_5 x13 x12) (Vp n0 q35_5 x13 x12) h (fun s o h=>Aig s o h) (by rfl) (fun _=>rfl) ?_
  rintro q43_14 h
  try dsimp only at h
  refine Cells.lit rfl rfl<|BslQ.o (slr true 1 Af) [q43_14] (by exact fun _=>⟨rfl,rfl⟩) (by first | rfl | (simp only [Aa,V.fz,fzL,V.up,upL,Ab,Ac,Ad,slr,List.cons_append,List.nil_append];done) | simp [Aa,V.fz,fzL,V.up,upL,Ab,Ac,Ad,slr])<|NoOwn.own rfl<|Kid.lit rfl rfl<|Kid.lit rfl rfl<|SetKids.lit rfl<|AppQ.o (m:=1) (slr true 1 Af) (by exact fun _=>⟨rfl,rfl⟩) (x12.Below) ([q43_14]) (by rfl) (by rfl) h fun h=>SetKids.lit rfl<|Ask.o h fun p44 h=> ?_
  cases h;exact ⟨rfl,rfl⟩
 cases h;exact ⟨rfl,rfl⟩
noncomputable def Iq (n0:Int) (pairs0:(List (Int×Int))):Option SPoset:=
 (Aj (E0 n0 pairs0) ((0:Int),Ar (List Bool))).bind fun q5_5=>
 (Aj (Ff n0 pairs0) ((0:Int),q5_5)).bind fun q12_5=>
 (Aj (E9 n0) ((0:Int),q12_5)).bind fun q35_5=>
 (Aj (Fd n0 q35_5) ((0:Int),{ Below:=Ar (List Int) })).bind fun q45_12=>
 some q45_12
theorem Am7 {n0:Int} {pairs0:(List (Int×Int))} {v:SPoset} (h:Iq n0 pairs0=some v):Ret Try.prog Ut [Af n0,(slr false 2 (rA2 Af)) pairs0] ((Ag true) v):=by
 refine A6 Ao9 (Nat.le_of_ble_eq_true rfl) ?_
 unfold Iq at h
 refine BslQ.o (slr true 1 V.bool) (Ar (List Bool)) (by exact fun _=>⟨rfl,rfl⟩) (by first | rfl | (simp only [Aa,V.fz,fzL,V.up,upL,Ab,Ac,Ad,slr,List.cons_append,List.nil_append];done) | simp [Aa,V.fz,fzL,V.up,upL,Ab,Ac,Ad,slr])<|LoopQ.o [6,5,4,0,1] (Ol n0 pairs0) (Wt n0 pairs0) h (fun s o h=>Aha s o h) (by rfl) (fun _=>rfl) ?_
 rintro q5_5 h
 try dsimp only at h
 refine LoopQ.o [8,5,4,0,1] (Pk n0 pairs0) (Vl n0 pairs0) h (fun s o h=>Ai6 s o h) (by rfl) (fun _=>rfl) ?_
 rintro q12_5 h
 try dsimp only at h
 refine LoopQ.o [9,5,4,0] (Om n0) (Vq n0) h (fun s o h=>Ah7 s o h) (by rfl) (fun _=>rfl) ?_
 rintro q35_5 h
 try dsimp only at h
 refine BslQ.o (slr true 1 Af) (Ar (List Int)) (by exact fun _=>⟨rfl,rfl⟩) (by first | rfl | (simp only [Aa,V.fz,fzL,V.up,upL,Ab,Ac,Ad,slr,List.cons_append,List.nil_append];done) | simp [Aa,V.fz,fzL,V.up,upL,Ab,Ac,Ad,slr])<|SetKids.lit rfl<|LoopQ.o [13,12,5,4,0] (Pt n0 q35_5) (Wd n0 q35_5) h (fun s o h=>Ahn s o h) (by rfl) (fun _=>rfl) ?_
 rintro q45_12 h
 try dsimp only at h
 refine Cells.lit rfl rfl<|SetKids.lit rfl ?_
 cases h;exact (by rfl)
noncomputable def Fp (l0:List Int) (n0:Int):Int→Option (Int ⊕ Int):=fun x5=>
 if x5<(↑l0.length:Int) then
 ask ((0:Int)≤x5∧x5<(↑l0.length:Int)) <|
 if nth l0 x5.toNat<n0 then
 ask (InI (x5+(1:Int))) <|
 some (.inl (x5+(1:Int)))
 else
 some (.inr x5)
 else
 some (.inr x5)
def Sn (l0:List Int) (n0:Int):Int→St:=fun s=>[(5,A.val (Af s)),(0,A.val ((slr false 1 Af) (l0))),(1,A.val (Af (n0)))]
def Aa4 (l0:List Int) (n0:Int):Int→Tgt
 | s=>((Ex.exit 0),[5,0,1],[(5,A.val (Af s)),(0,A.val ((slr false 1 Af) (l0))),(1,A.val (Af (n0)))])
theorem Alk {l0:List Int} {n0:Int} (x5:Int) (o:Int ⊕ Int) (h:Fp l0 n0 x5=some o):vc Try.prog Abc (Cc [5,0,1] (Sn l0 n0) (Aa4 l0 n0) o) (Sn l0 n0 x5):=by
 unfold Fp at h
 try dsimp only at h
 refine Len.map<|Br.od h (fun p1 h=> ?_) (fun p1 h=> ?_)
 ·refine Br.yes<|Br.yes<|Len.map<|Ask.o h fun p2 h=>Elem.o (by first | omega | (simp [Ak] at * <;> omega))<|Br.yes<|Br.yes<|Br.yes<|Br.yes<|Br.od h (fun p3 h=> ?_) (fun p3 h=> ?_)
  ·refine Ask.o h fun p4 h=> ?_
   cases h;exact ⟨rfl,rfl⟩
  cases h;exact ⟨rfl,rfl⟩
 refine Br.no<|Br.no<|Br.no<|Br.no<|Br.no<|Br.no<|Br.no ?_
 cases h;exact ⟨rfl,rfl⟩
noncomputable def On (l0:(List Int)) (n0:Int):Option (List Int):=
 (Aj (Fp l0 n0) (0:Int)).bind fun q5_5=>
 ((if q5_5<(↑l0.length:Int) then
 ask ((0:Int)≤q5_5∧q5_5<(↑l0.length:Int)) <|
 if nth l0 q5_5.toNat=n0 then
 some (.inl ())
 else
 some (.inr ())
 else
 some (.inr ()):Option (Unit ⊕ Unit))).bind fun t=>match t with
 | (.inl _)=>(some l0)
 | (.inr _)=>(ask (0≤(0:Int)∧(0:Int)≤q5_5∧q5_5≤((l0.length:Nat):Int)) <|
 ask ((Ar Int).length+(List.take (q5_5.toNat-Int.toNat (0:Int)) (List.drop (Int.toNat (0:Int)) l0)).length≤LIM) <|
 ask ((Ar Int++List.take (q5_5.toNat-Int.toNat (0:Int)) (List.drop (Int.toNat (0:Int)) l0)).length+([n0]).length≤LIM) <|
 ask (0≤q5_5∧q5_5≤(↑l0.length:Int)∧(↑l0.length:Int)≤((l0.length:Nat):Int)) <|
 ask ((Ar Int++List.take (q5_5.toNat-Int.toNat (0:Int)) (List.drop (Int.toNat (0:Int)) l0)++[n0]).length+(List.take ((↑l0.length:Int).toNat-q5_5.toNat) (List.drop q5_5.toNat l0)).length≤LIM) <|
 some (Ar Int++List.take (q5_5.toNat-Int.toNat (0:Int)) (List.drop (Int.toNat (0:Int)) l0)++[n0]++List.take ((↑l0.length:Int).toNat-q5_5.toNat) (List.drop q5_5.toNat l0)))
theorem Aty {l0:(List Int)} {n0:Int} {v:(List Int)} (h:On l0 n0=some v):Ret Try.prog Aai [(slr false 1 Af) l0,Af n0] ((slr false 1 Af) v):=by
 refine A3i Aso (Nat.le_of_ble_eq_true rfl) ?_
 unfold On at h
 conv=>whnf
 refine LoopQ.o [5,0,1] (Sn l0 n0) (Aa4 l0 n0) h (fun s o h=>Alk s o h) (by rfl) (fun _=>rfl) ?_
 rintro q5_5 h
 try dsimp only at h
 conv=>whnf
 refine CutQ.o (fun t:(Unit ⊕ Unit)=>match t with | (.inl s)=>(Ex.ret,[4],[(4,A.val ((slr false 1 Af) (l0)))]) | (.inr s)=>(Ex.normal,[5,0,1],[(5,A.val (Af (q5_5))),(0,A.val ((slr false 1 Af) (l0))),(1,A.val (Af (n0)))])) h ?_ ?_
 ·intro t h
  conv=>whnf
  refine Len.map ?_
  conv=>whnf
  refine Br.od h (fun p6 h=> ?_) (fun p6 h=> ?_)
  ·conv=>whnf
   refine Br.yes ?_
   conv=>whnf
   refine Br.yes ?_
   conv=>whnf
   refine Len.map ?_
   conv=>whnf
   refine Ask.o h fun p7 h=> ?_
   conv=>whnf
   refine Elem.o (by first | omega | (simp [Ak] at * <;> omega)) ?_
   conv=>whnf
   refine Br.yes ?_
   conv=>whnf
   refine Br.yes ?_
   conv=>whnf
   refine Br.yes ?_
   conv=>whnf
   refine Br.yes ?_
   conv=>whnf
   refine Br.oe h (fun p8 h=> ?_) (fun p8 h=> ?_)
   ·conv=>whnf
    cases h;exact ⟨rfl,rfl⟩
   conv=>whnf
   cases h;exact ⟨rfl,rfl⟩
  conv=>whnf
  refine Br.no ?_
  conv=>whnf
  refine Br.no ?_
  conv=>whnf
  refine Br.no ?_
  conv=>whnf
  refine Br.no ?_
  conv=>whnf
  refine Br.no ?_
  conv=>whnf
  refine Br.no ?_
  conv=>whnf
  refine Br.no ?_
  conv=>whnf
  cases h;exact ⟨rfl,rfl⟩
 rintro (⟨⟩ | ⟨⟩) h
 ·try dsimp only at h
  conv=>whnf
  cases h;exact (by rfl)
 try dsimp only at h
 conv=>whnf
 refine BslQ.o Af (Ar Int) (by exact fun _=>⟨rfl,rfl⟩) (by first | rfl | (simp only [Aa,V.fz,fzL,V.up,upL,Ab,Ac,Ad,slr,List.cons_append,List.nil_append];done) | simp [Aa,V.fz,fzL,V.up,upL,Ab,Ac,Ad,slr]) ?_
 conv=>whnf
 refine SlcQ.o Af h fun h=> ?_
 conv=>whnf
 refine AppQ.o (m:=1) Af (by exact fun _=>⟨rfl,rfl⟩) (Ar Int) (List.take (q5_5.toNat-Int.toNat (0:Int)) (List.drop (Int.toNat (0:Int)) l0)) (by rfl) (by rfl) h fun h=> ?_
 conv=>whnf
 refine BslQ.o Af [n0] (by exact fun _=>⟨rfl,rfl⟩) (by first | rfl | (simp only [Aa,V.fz,fzL,V.up,upL,Ab,Ac,Ad,slr,List.cons_append,List.nil_append];done) | simp [Aa,V.fz,fzL,V.up,upL,Ab,Ac,Ad,slr]) ?_
 conv=>whnf
 refine NoOwn.o (fun _=>rfl) ?_
 conv=>whnf
 refine AppQ.o (m:=1) Af (by exact fun _=>⟨rfl,rfl⟩) (Ar Int++List.take (q5_5.toNat-Int.toNat (0:Int)) (List.drop (Int.toNat (0:Int)) l0)) ([n0]) (by rfl) (by rfl) h fun h=> ?_
 conv=>whnf
 refine Len.map ?_
 conv=>whnf
 refine SlcQ.o Af h fun h=> ?_
 conv=>whnf
 refine AppQ.o (m:=1) Af (by exact fun _=>⟨rfl,rfl⟩) (Ar Int++List.take (q5_5.toNat-Int.toNat (0:Int)) (List.drop (Int.toNat (0:Int)) l0)++[n0]) (List.take ((↑l0.length:Int).toNat-q5_5.toNat) (List.drop q5_5.toNat l0)) (by rfl) (by rfl) h fun h=> ?_
 conv=>whnf
 cases h;exact (by first | rfl | simp only [Ai,Ac,slr] | simp [Ai,Aa,V.fz,fzL,V.up,upL,Ab,Ac,Ad,slr])
noncomputable def Gl (c0:Sl1Cur):Option (Int×Sl1Cur):=
 ((if c0.at_<(↑c0.code.length:Int) then
 ask ((0:Int)≤c0.at_∧c0.at_<(↑c0.code.length:Int)) <|
 some (IntKind.i64.wrap (nth c0.code c0.at_.toNat))
 else
 some (0:Int):Option Int)).bind fun q3_3=>
 ask (InI (c0.at_+(1:Int))) <|
 if c0.at_+(1:Int)≤(↑c0.code.length:Int) then
 some (q3_3,{ code:=c0.code,at_:=c0.at_+(1:Int),seed:=IntKind.u64.wrap (IntKind.u64.wrap (IntKind.u64.wrap (c0.seed*(6364136223846793005:Int))+IntKind.u64.wrap q3_3)+(550289:Int)) })
 else
 some (IntKind.i64.wrap (IntKind.u64.wrap (↑(BitVec.ofInt IntKind.u64.bits ((IntKind.u64.wrap (IntKind.u64.wrap (IntKind.u64.wrap (c0.seed*(6364136223846793005:Int))+IntKind.u64.wrap q3_3)+(550289:Int))).fdiv ((2:Int)^min (Int.toNat (40:Int)) IntKind.u64.bits)) &&& BitVec.ofInt IntKind.u64.bits (255:Int)).toNat:Int)),{ code:=c0.code,at_:=c0.at_+(1:Int),seed:=IntKind.u64.wrap (IntKind.u64.wrap (IntKind.u64.wrap (c0.seed*(6364136223846793005:Int))+IntKind.u64.wrap q3_3)+(550289:Int)) })
theorem Wa {c0:Sl1Cur} {v:(Int×Sl1Cur)} (h:Gl c0=some v):Aey Try.prog Km [(rP true (At false)) c0] (Af v.1) 0 ((rP true (At false)) v.2):=by
 refine Aij Agq (Nat.le_of_ble_eq_true rfl) ?_
 unfold Gl at h
 refine CutQ.o (fun t:Int=>match t with | s=>(Ex.normal,[3,0,62],[(3,A.val (Af s)),(0,A.ref 62 []),(62,A.val ((rP true (At false)) (c0)))])) h ?_ ?_
 ·intro t h
  refine Cells.lit rfl rfl<|Cells.lit rfl rfl<|Len.map<|Br.od h (fun p1 h=> ?_) (fun p1 h=> ?_)
  ·refine Cells.lit rfl rfl<|Cells.lit rfl rfl<|Len.map<|Ask.o h fun p2 h=>Elem.o (by first | omega | (simp [Ak] at * <;> omega)) ?_
   cases h;exact ⟨rfl,rfl⟩
  cases h;exact ⟨rfl,rfl⟩
 rintro q3_3 h
 try dsimp only at h
 refine Cells.lit rfl rfl<|Ask.o h fun p4 h=>SetKids.lit rfl<|Cells.lit rfl rfl<|SetKids.lit rfl<|Cells.lit rfl rfl<|Cells.lit rfl rfl<|Len.map<|Br.od h (fun p5 h=> ?_) (fun p5 h=> ?_)
 ·cases h;exact ⟨(by rfl),(by rfl)⟩
 refine Cells.lit rfl rfl ?_
 cases h;exact ⟨(by rfl),(by rfl)⟩
end Go.Proofs.Ytpfikenknmlajaa.Ax
