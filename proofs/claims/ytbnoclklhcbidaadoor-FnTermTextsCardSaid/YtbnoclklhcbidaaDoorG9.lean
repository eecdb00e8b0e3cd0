/-
 What the functions compute, as functions on plain data, and that the program does compute it; written by program.
-/
import Derived.Test.YtbnoclklhcbidaaDoorCode
import Derived.Test.YtbnoclklhcbidaaDoorG1
import Derived.Test.YtbnoclklhcbidaaDoorG2
import Derived.Test.YtbnoclklhcbidaaDoorG3
import Derived.Test.YtbnoclklhcbidaaDoorG5
import Derived.Test.YtbnoclklhcbidaaDoorG6
namespace Go.Proofs.YtbnoclklhcbidaaDoor.Ax
open Go
set_option maxRecDepth 100000
set_option maxHeartbeats 4000000
noncomputable def Cd (t0:List Int) (x8:Int) (_x7:List Int) (x6:List Int):Int→Option (Int ⊕ Int):=fun x9=>
 if x9<(↑x6.length:Int) then
 ask ((0:Int)≤x9∧x9<(↑x6.length:Int)) <|
 ask ((0:Int)≤x8∧x8<(↑t0.length:Int)) <|
 if nth x6 x9.toNat≠nth t0 x8.toNat then
 ask (InI (x9+(1:Int))) <|
 some (.inl (x9+(1:Int)))
 else
 some (.inr x9)
 else
 some (.inr x9)
def Hq (t0:List Int) (x8:Int) (x7:List Int) (x6:List Int):Int→St:=fun s=>[(9,A.val (Af s)),(8,A.val (Af (x8))),(7,A.val ((slr true 1 Af) (x7))),(6,A.val ((slr true 1 Af) (x6))),(1,A.val ((slr false 1 Af) (t0)))]
def Lt (t0:List Int) (x8:Int) (x7:List Int) (x6:List Int):Int→Tgt
 | s=>((Ex.exit 2),[9,8,7,6,1],[(9,A.val (Af s)),(8,A.val (Af (x8))),(7,A.val ((slr true 1 Af) (x7))),(6,A.val ((slr true 1 Af) (x6))),(1,A.val ((slr false 1 Af) (t0)))])
theorem Tk {t0:List Int} {x8:Int} {x7:List Int} {x6:List Int} (x9:Int) (o:Int ⊕ Int) (h:Cd t0 x8 x7 x6 x9=some o):vc Tryd.prog Lr (Gg [9,8,7,6,1] (Hq t0 x8 x7 x6) (Lt t0 x8 x7 x6) o) (Hq t0 x8 x7 x6 x9):=by
 unfold Cd at h
 try dsimp only at h
 conv=>whnf
 refine Len.map ?_
 conv=>whnf
 refine Br.od h (fun p8 h=> ?_) (fun p8 h=> ?_)
 ·conv=>whnf
  refine Br.yes ?_
  conv=>whnf
  refine Br.yes ?_
  conv=>whnf
  refine Len.map ?_
  conv=>whnf
  refine Ask.o h fun p9 h=> ?_
  conv=>whnf
  refine Br.yes ?_
  conv=>whnf
  refine Cells.one (fun _=>⟨rfl,rfl⟩) (by first | omega | (simp [A8] at * <;> omega)) ?_
  conv=>whnf
  refine Br.yes ?_
  conv=>whnf
  refine Br.yes ?_
  conv=>whnf
  refine Br.yes ?_
  conv=>whnf
  refine Len.map ?_
  conv=>whnf
  refine Ask.o h fun p10 h=> ?_
  conv=>whnf
  refine Elem.o (by first | omega | (simp [A8] at * <;> omega)) ?_
  conv=>whnf
  refine Br.yes ?_
  conv=>whnf
  refine Br.yes ?_
  conv=>whnf
  refine Br.yes ?_
  conv=>whnf
  refine Br.on h (fun p11 h=> ?_) (fun p11 h=> ?_)
  ·conv=>whnf
   refine Ask.o h fun p12 h=> ?_
   conv=>whnf
   cases h;exact ⟨rfl,rfl⟩
  conv=>whnf
  cases h;exact ⟨rfl,rfl⟩
 conv=>whnf
 refine Br.no ?_
 conv=>whnf
 refine Br.no ?_
 conv=>whnf
 refine Br.no ?_
 conv=>whnf
 refine Br.no ?_
 conv=>whnf
 refine Br.no ?_
 conv=>whnf
 refine Br.no ?_
 conv=>whnf
 refine Br.no ?_
 conv=>whnf
 refine Br.no ?_
 conv=>whnf
 refine Br.no ?_
 conv=>whnf
 refine Br.no ?_
 conv=>whnf
 cases h;exact ⟨rfl,rfl⟩
noncomputable def Cr (t0:List Int):(Int×(List Int)×(List Int))→Option ((Int×(List Int)×(List Int)) ⊕ (List Int)):=fun (x8,x7,x6)=>
 if x8<(↑t0.length:Int) then
 ask ((0:Int)≤x8∧x8<(↑t0.length:Int)) <|
 if nth t0 x8.toNat<(0:Int) then
 ask ((0:Int)≤x8∧x8<(↑t0.length:Int)) <|
 ask ((x7).length+([nth t0 x8.toNat]).length≤LIM) <|
 ask (InI (x8+(1:Int))) <|
 some (.inl (x8+(1:Int),x7++[nth t0 x8.toNat],x6))
 else
 (A7 (Cd t0 x8 x7 x6) (0:Int)).bind fun q13_9=>
 if q13_9=(↑x6.length:Int) then
 ask ((0:Int)≤x8∧x8<(↑t0.length:Int)) <|
 ask ((x6).length+([nth t0 x8.toNat]).length≤LIM) <|
 ask ((x7).length+([q13_9]).length≤LIM) <|
 ask (InI (x8+(1:Int))) <|
 some (.inl (x8+(1:Int),x7++[q13_9],x6++[nth t0 x8.toNat]))
 else
 ask ((x7).length+([q13_9]).length≤LIM) <|
 ask (InI (x8+(1:Int))) <|
 some (.inl (x8+(1:Int),x7++[q13_9],x6))
 else
 some (.inr x7)
def Hk (t0:List Int):(Int×(List Int)×(List Int))→St:=fun s=>[(8,A.val (Af s.1)),(7,A.val ((slr true 1 Af) s.2.1)),(6,A.val ((slr true 1 Af) s.2.2)),(1,A.val ((slr false 1 Af) (t0)))]
def Lh (_t0:List Int):(List Int)→Tgt
 | s=>((Ex.exit 0),[7],[(7,A.val ((slr true 1 Af) s))])
theorem S6 {t0:List Int} (s:(Int×(List Int)×(List Int))) (o:(Int×(List Int)×(List Int)) ⊕ (List Int)) (h:Cr t0 s=some o):vc Tryd.prog Lk (Gg [8,7,6,1] (Hk t0) (Lh t0) o) (Hk t0 s):=by
 obtain ⟨x8,x7,x6⟩:=s
 unfold Cr at h
 try dsimp only at h
 conv=>whnf
 refine Len.map ?_
 conv=>whnf
 refine Br.od h (fun p3 h=> ?_) (fun p3 h=> ?_)
 ·conv=>whnf
  refine Len.map ?_
  conv=>whnf
  refine Ask.o h fun p4 h=> ?_
  conv=>whnf
  refine Elem.o (by first | omega | (simp [A8] at * <;> omega)) ?_
  conv=>whnf
  refine Br.od h (fun p5 h=> ?_) (fun p5 h=> ?_)
  ·conv=>whnf
   refine Len.map ?_
   conv=>whnf
   refine Ask.o h fun p6 h=> ?_
   conv=>whnf
   refine Elem.o (by first | omega | (simp [A8] at * <;> omega)) ?_
   conv=>whnf
   refine BslQ.o Af ([nth t0 x8.toNat]) (by exact fun _=>⟨rfl,rfl⟩) (by first | rfl | (simp only [Aa,V.fz,fzL,V.up,upL,Ab,Ac,Ad,slr,List.cons_append,List.nil_append];done) | simp [Aa,V.fz,fzL,V.up,upL,Ab,Ac,Ad,slr]) ?_
   conv=>whnf
   refine NoOwn.o (fun _=>rfl) ?_
   conv=>whnf
   refine AppQ.o (m:=1) Af (by exact fun _=>⟨rfl,rfl⟩) (x7) ([nth t0 x8.toNat]) (by first | rfl | simp only [Aa,V.fz,fzL,V.up,upL,Ab,Ac,Ad,slr,List.cons_append,List.nil_append] | simp [Aa,V.fz,fzL,V.up,upL,Ab,Ac,Ad,slr]) (by first | rfl | simp only [Aa,V.fz,fzL,V.up,upL,Ab,Ac,Ad,slr,List.cons_append,List.nil_append] | simp [Aa,V.fz,fzL,V.up,upL,Ab,Ac,Ad,slr]) h fun h=> ?_
   conv=>whnf
   refine Ask.o h fun p7 h=> ?_
   conv=>whnf
   cases h;exact ⟨rfl,rfl⟩
  conv=>whnf
  refine LoopQ.o [9,8,7,6,1] (Hq t0 x8 x7 x6) (Lt t0 x8 x7 x6) h (fun s o h=>Tk s o h) (by first | rfl | simp [restrict,look,Aa,V.fz,fzL,V.up,upL,Ab,Ac,Ad,slr]) (fun _=>rfl) ?_
  rintro q13_9 h
  try dsimp only at h
  conv=>whnf
  refine Len.map ?_
  conv=>whnf
  refine Br.oe h (fun p14 h=> ?_) (fun p14 h=> ?_)
  ·conv=>whnf
   refine Len.map ?_
   conv=>whnf
   refine Ask.o h fun p15 h=> ?_
   conv=>whnf
   refine Elem.o (by first | omega | (simp [A8] at * <;> omega)) ?_
   conv=>whnf
   refine BslQ.o Af ([nth t0 x8.toNat]) (by exact fun _=>⟨rfl,rfl⟩) (by first | rfl | (simp only [Aa,V.fz,fzL,V.up,upL,Ab,Ac,Ad,slr,List.cons_append,List.nil_append];done) | simp [Aa,V.fz,fzL,V.up,upL,Ab,Ac,Ad,slr]) ?_
   conv=>whnf
   refine NoOwn.o (fun _=>rfl) ?_
   conv=>whnf
   refine AppQ.o (m:=1) Af (by exact fun _=>⟨rfl,rfl⟩) (x6) ([nth t0 x8.toNat]) (by first | rfl | simp only [Aa,V.fz,fzL,V.up,upL,Ab,Ac,Ad,slr,List.cons_append,List.nil_append] | simp [Aa,V.fz,fzL,V.up,upL,Ab,Ac,Ad,slr]) (by first | rfl | simp only [Aa,V.fz,fzL,V.up,upL,Ab,Ac,Ad,slr,List.cons_append,List.nil_append] | simp [Aa,V.fz,fzL,V.up,upL,Ab,Ac,Ad,slr]) h fun h=> ?_
   conv=>whnf
   refine BslQ.o Af [q13_9] (by exact fun _=>⟨rfl,rfl⟩) (by first | rfl | (simp only [Aa,V.fz,fzL,V.up,upL,Ab,Ac,Ad,slr,List.cons_append,List.nil_append];done) | simp [Aa,V.fz,fzL,V.up,upL,Ab,Ac,Ad,slr]) ?_
   conv=>whnf
   refine NoOwn.o (fun _=>rfl) ?_
   conv=>whnf
   refine AppQ.o (m:=1) Af (by exact fun _=>⟨rfl,rfl⟩) (x7) ([q13_9]) (by first | rfl | simp only [Aa,V.fz,fzL,V.up,upL,Ab,Ac,Ad,slr,List.cons_append,List.nil_append] | simp [Aa,V.fz,fzL,V.up,upL,Ab,Ac,Ad,slr]) (by first | rfl | simp only [Aa,V.fz,fzL,V.up,upL,Ab,Ac,Ad,slr,List.cons_append,List.nil_append] | simp [Aa,V.fz,fzL,V.up,upL,Ab,Ac,Ad,slr]) h fun h=> ?_
   conv=>whnf
   refine Ask.o h fun p16 h=> ?_
   conv=>whnf
   cases h;exact ⟨rfl,rfl⟩
  conv=>whnf
  refine BslQ.o Af [q13_9] (by exact fun _=>⟨rfl,rfl⟩) (by first | rfl | (simp only [Aa,V.fz,fzL,V.up,upL,Ab,Ac,Ad,slr,List.cons_append,List.nil_append];done) | simp [Aa,V.fz,fzL,V.up,upL,Ab,Ac,Ad,slr]) ?_
  conv=>whnf
  refine NoOwn.o (fun _=>rfl) ?_
  conv=>whnf
  refine AppQ.o (m:=1) Af (by exact fun _=>⟨rfl,rfl⟩) (x7) ([q13_9]) (by first | rfl | simp only [Aa,V.fz,fzL,V.up,upL,Ab,Ac,Ad,slr,List.cons_append,List.nil_append] | simp [Aa,V.fz,fzL,V.up,upL,Ab,Ac,Ad,slr]) (by first | rfl | simp only [Aa,V.fz,fzL,V.up,upL,Ab,Ac,Ad,slr,List.cons_append,List.nil_append] | simp [Aa,V.fz,fzL,V.up,upL,Ab,Ac,Ad,slr]) h fun h=> ?_
  conv=>whnf
  refine Ask.o h fun p17 h=> ?_
  conv=>whnf
  cases h;exact ⟨rfl,rfl⟩
 conv=>whnf
 cases h;exact ⟨rfl,rfl⟩
noncomputable def Fm (a0:SAlgebra) (t0:(List Int)):Option ((List Int)×Bool):=
 (Cq (a0) (t0)).bind fun r1=>
 if (r1)=true then
 (A7 (Cr t0) ((0:Int),A4 Int,A4 Int)).bind fun q18_7=>
 some (q18_7,true)
 else
 some (A4 Int,false)
theorem Yn {a0:SAlgebra} {t0:(List Int)} {v:((List Int)×Bool)} (h:Fm a0 t0=some v):Ret Tryd.prog Jp [(Ag false) a0,(slr false 1 Af) t0] ((fun r=>V.tup [(slr true 1 Af) r.1,V.bool r.2]) v):=by
 refine Bp Yh (Nat.le_of_ble_eq_true rfl) ?_
 unfold Fm at h
 conv=>whnf
 refine Cells.lit rfl rfl ?_
 conv=>whnf
 refine CallQ.o V.bool (by first | rfl | simp only [Aa,V.fz,fzL,V.up,upL,Ab,Ac,Ad,slr,List.cons_append,List.nil_append] | simp [Aa,V.fz,fzL,V.up,upL,Ab,Ac,Ad,slr]) h (fun r h=>Fb h) (fun r1 h=> ?_)
 conv=>whnf
 refine Br.flip ?_
 conv=>whnf
 refine Br.ob h (fun p2 h=> ?_) (fun p2 h=> ?_)
 ·conv=>whnf
  refine BslQ.o Af (A4 Int) (by exact fun _=>⟨rfl,rfl⟩) (by first | rfl | (simp only [Aa,V.fz,fzL,V.up,upL,Ab,Ac,Ad,slr,List.cons_append,List.nil_append];done) | simp [Aa,V.fz,fzL,V.up,upL,Ab,Ac,Ad,slr]) ?_
  conv=>whnf
  refine BslQ.o Af (A4 Int) (by exact fun _=>⟨rfl,rfl⟩) (by first | rfl | (simp only [Aa,V.fz,fzL,V.up,upL,Ab,Ac,Ad,slr,List.cons_append,List.nil_append];done) | simp [Aa,V.fz,fzL,V.up,upL,Ab,Ac,Ad,slr]) ?_
  conv=>whnf
  refine LoopQ.o [8,7,6,1] (Hk t0) (Lh t0) h (fun s o h=>S6 s o h) (by first | rfl | simp [restrict,look,Aa,V.fz,fzL,V.up,upL,Ab,Ac,Ad,slr]) (fun _=>rfl) ?_
  rintro q18_7 h
  try dsimp only at h
  conv=>whnf
  cases h;exact (by first | rfl | simp only [Ah,Aa,V.fz,fzL,V.up,upL,Ab,Ac,Ad,slr] | simp [Ah,Aa,V.fz,fzL,V.up,upL,Ab,Ac,Ad,slr])
 conv=>whnf
 refine BslQ.o Af (A4 Int) (by exact fun _=>⟨rfl,rfl⟩) (by first | rfl | (simp only [Aa,V.fz,fzL,V.up,upL,Ab,Ac,Ad,slr,List.cons_append,List.nil_append];done) | simp [Aa,V.fz,fzL,V.up,upL,Ab,Ac,Ad,slr]) ?_
 conv=>whnf
 cases h;exact (by first | rfl | simp only [Ah,Aa,V.fz,fzL,V.up,upL,Ab,Ac,Ad,slr] | simp [Ah,Aa,V.fz,fzL,V.up,upL,Ab,Ac,Ad,slr])
noncomputable def F4 (a0:SAlgebra) (s0:ByteArray):Option ((List Int)×Bool):=
 (Js (s0)).bind fun r1=>
 (Cq (a0) (r1)).bind fun r2=>
 if (r2)=true then
 (Li fun n=>Ca n (a0) (r1)).bind fun r4=>
 if (r4.toList==s0.toList)=true then
 some (r1,true)
 else
 some (A4 Int,false)
 else
 some (A4 Int,false)
theorem Zr {a0:SAlgebra} {s0:ByteArray} {v:((List Int)×Bool)} (h:F4 a0 s0=some v):Ret Tryd.prog Kr [(Ag false) a0,V.str s0] ((fun r=>V.tup [(slr true 1 Af) r.1,V.bool r.2]) v):=by
 refine Bp Zq (Nat.le_of_ble_eq_true rfl) ?_
 unfold F4 at h
 conv=>whnf
 refine CallQ.o (slr true 1 Af) (by first | rfl | simp only [Aa,V.fz,fzL,V.up,upL,Ab,Ac,Ad,slr,List.cons_append,List.nil_append] | simp [Aa,V.fz,fzL,V.up,upL,Ab,Ac,Ad,slr]) h (fun r h=>Aej h) (fun r1 h=> ?_)
 conv=>whnf
 refine Cells.lit rfl rfl ?_
 conv=>whnf
 refine CallQ.rd V.bool (by first | rfl | simp only [V.fz,fzL,V.up,Ab,Ad,slr] | simp [Aa,V.fz,fzL,V.up,upL,Ab,Ac,Ad,slr]) (fun _=>rfl) h (fun r h=>Fb h) (fun r2 h=> ?_)
 conv=>whnf
 refine Br.flip ?_
 conv=>whnf
 refine Br.ob h (fun p3 h=> ?_) (fun p3 h=> ?_)
 ·conv=>whnf
  refine Cells.lit rfl rfl ?_
  conv=>whnf
  refine Br.no ?_
  conv=>whnf
  refine Br.no ?_
  conv=>whnf
  refine CallQ.rd V.str (by first | rfl | simp only [V.fz,fzL,V.up,Ab,Ad,slr] | simp [Aa,V.fz,fzL,V.up,upL,Ab,Ac,Ad,slr]) (fun _=>rfl) h (fun r h=>Pb h) (fun r4 h=> ?_)
  conv=>whnf
  refine Br.no ?_
  conv=>whnf
  refine Br.no ?_
  conv=>whnf
  refine Br.no ?_
  conv=>whnf
  refine Br.flip ?_
  conv=>whnf
  refine Br.ob h (fun p5 h=> ?_) (fun p5 h=> ?_)
  ·conv=>whnf
   cases h;exact (by first | rfl | simp only [Ah,Aa,V.fz,fzL,V.up,upL,Ab,Ac,Ad,slr] | simp [Ah,Aa,V.fz,fzL,V.up,upL,Ab,Ac,Ad,slr])
  conv=>whnf
  refine BslQ.o Af (A4 Int) (by exact fun _=>⟨rfl,rfl⟩) (by first | rfl | (simp only [Aa,V.fz,fzL,V.up,upL,Ab,Ac,Ad,slr,List.cons_append,List.nil_append];done) | simp [Aa,V.fz,fzL,V.up,upL,Ab,Ac,Ad,slr]) ?_
  conv=>whnf
  cases h;exact (by first | rfl | simp only [Ah,Aa,V.fz,fzL,V.up,upL,Ab,Ac,Ad,slr] | simp [Ah,Aa,V.fz,fzL,V.up,upL,Ab,Ac,Ad,slr])
 conv=>whnf
 refine Br.yes ?_
 conv=>whnf
 refine Br.yes ?_
 conv=>whnf
 refine Br.yes ?_
 conv=>whnf
 refine Br.yes ?_
 conv=>whnf
 refine Br.yes ?_
 conv=>whnf
 refine Br.yes ?_
 conv=>whnf
 refine BslQ.o Af (A4 Int) (by exact fun _=>⟨rfl,rfl⟩) (by first | rfl | (simp only [Aa,V.fz,fzL,V.up,upL,Ab,Ac,Ad,slr,List.cons_append,List.nil_append];done) | simp [Aa,V.fz,fzL,V.up,upL,Ab,Ac,Ad,slr]) ?_
 conv=>whnf
 cases h;exact (by first | rfl | simp only [Ah,Aa,V.fz,fzL,V.up,upL,Ab,Ac,Ad,slr] | simp [Ah,Aa,V.fz,fzL,V.up,upL,Ab,Ac,Ad,slr])
abbrev rBN:Bool×List Int→V
 | (true,xs)=> .sl true 1 (xs.map Af)
 | (false,xs)=>rNe xs
theorem Anp:One rBN:=fun x=>by rcases x with ⟨_ | _,_ | _⟩<;>exact ⟨rfl,rfl⟩
theorem Am7 {e:Bool×List Int} (h:e.1=true∨e.2≠[]):rBN e = .sl true 1 (e.2.map Af):=by
 rcases e with ⟨_ | _,xs⟩
 ·exact Ah1 (h.resolve_left (by simp))
 rfl
theorem Av0 {L:List (Bool×List Int)} (h : ∀e∈L,e.1=true∨e.2≠[]):fzL (L.map rBN)=(L.map (·.2)).map (slr false 1 Af):=by
 induction L with
 | nil=>rfl
 | cons a r ih=>
   simp only [List.map_cons,fzL]
   rw [Am7 (h a (by simp)),ih fun e he=>h e (by simp [he])]
   simp only [V.fz,Ab]
theorem Kid.bn {m:Nat} {xs:List (Bool×List Int)} {c:Nat} {K:V→Prop} (hc:c<xs.length) (hx:(nth xs c).2≠[]) (hk:K (.sl true 1 ((nth xs c).2.map Af))):Kid (.sl true m (xs.map rBN)) c K:=
 Kid.one Anp hc (by rw [Am7 (.inr hx)];exact hk)
noncomputable def Dp (n:Int):(Int×List (Bool×List Int))→Option ((Int×List (Bool×List Int)) ⊕ List (Bool×List Int)):=fun (x34,x8)=>
 if x34<n then
 ask ((0:Int)≤x34∧x34<(↑x8.length:Int)) <|
 if nth x8 x34.toNat=(false,[]) then
 ask ((0:Int)≤x34∧x34<(↑x8.length:Int)) <|
 ask (InI (x34+(1:Int))) <|
 some (.inl (x34+(1:Int),x8.set x34.toNat (true,[])))
 else
 ask ((nth x8 x34.toNat).2≠[]) <|
 ask (InI (x34+(1:Int))) <|
 some (.inl (x34+(1:Int),x8))
 else
 some (.inr x8)
def F1 (n:Int):(Int×List (Bool×List Int))→St:=fun s=>[(34,A.val (Af s.1)),(33,A.val (Af n)),(8,A.val ((slr true 1 rBN) s.2))]
def Mm:List (Bool×List Int)→Tgt
 | s=>((Ex.exit 0),[8],[(8,A.val ((slr true 1 rBN) s))])
theorem Vo {n:Int} (s:Int×List (Bool×List Int)) (o:(Int×List (Bool×List Int)) ⊕ List (Bool×List Int)) (h:Dp n s=some o):vc Tryd.prog Mk (Gg [34,33,8] (F1 n) Mm o) (F1 n s):=by
 obtain ⟨x34,x8⟩:=s
 unfold Dp at h
 try dsimp only at h
 conv=>whnf
 refine Br.od h (fun p8 h=> ?_) (fun p8 h=> ?_)
 ·conv=>whnf
  refine Len.map ?_
  conv=>whnf
  refine Ask.o h fun p9 h=> ?_
  conv=>whnf
  refine Cells.one Anp (by first | omega | (simp [A8] at *;omega)) ?_
  by_cases hx:nth x8 x34.toNat=(false,[])
  ·rw [if_pos hx] at h
   refine Ahj (m:=1) (show rBN (nth x8 x34.toNat) = .nl 1 by rw [hx]) ?_
   conv=>whnf
   refine Br.yes ?_
   conv=>whnf
   refine BslQ.o Af (A4 Int) (by exact fun _=>⟨rfl,rfl⟩) (by rfl) ?_
   conv=>whnf
   refine Len.map ?_
   conv=>whnf
   refine Ask.o h fun p10 h=> ?_
   conv=>whnf
   refine SetKids.one Anp (true,[]) rfl (by first | omega | (simp [A8] at *;omega)) ?_
   conv=>whnf
   refine Ask.o h fun p11 h=> ?_
   conv=>whnf
   cases h;exact ⟨rfl,rfl⟩
  rw [if_neg hx] at h
  obtain ⟨p12,h⟩:=Fd.1 h
  refine Wt (show V.hasOwn (rBN (nth x8 x34.toNat))=true by rw [Am7 (.inr p12)];rfl) ?_
  conv=>whnf
  refine Kid.bn (by first | omega | (simp [A8] at *;omega)) p12 ?_
  conv=>whnf
  refine Len.map ?_
  refine ⟨by have:=List.length_pos_iff.2 p12;first | omega | (simp [A8] at *;omega),?_⟩
  conv=>whnf
  refine Br.no ?_
  conv=>whnf
  refine Ask.o h fun p13 h=> ?_
  conv=>whnf
  cases h;exact ⟨rfl,rfl⟩
 conv=>whnf
 cases h;exact ⟨rfl,rfl⟩
noncomputable def F5 (a0:SAlgebra) (pattern0:(List Int)) (t0:(List Int)):Option ((List (List Int))×Bool):=
 (((D5 (a0) (pattern0)).bind fun r1=>
 if (r1)=true then
 (D8 (a0) (t0)).bind fun r3=>
 if (r3)=true then
 some (.inl ())
 else
 some (.inr ())
 else
 some (.inr ()):Option (Unit ⊕ Unit))).bind fun t=>match t with
 | (.inl _)=>((F3 (a0) (pattern0) (t0)).bind fun r6=>
 if (r6.snd)=true then
 (A7 (Dp (↑r6.fst.length:Int)) ((0:Int),r6.fst.map fun x=>(false,x))).bind fun q8=>
 ask (∀e∈q8,e.1=true∨e.2≠[]) <|
 some (q8.map (·.2),true)
 else
 some (A4 (List Int),false))
 | (.inr _)=>(some (A4 (List Int),false))
theorem Y7 {a0:SAlgebra} {pattern0:(List Int)} {t0:(List Int)} {v:((List (List Int))×Bool)} (h:F5 a0 pattern0 t0=some v):Ret Tryd.prog Kt [(Ag false) a0,(slr false 1 Af) pattern0,(slr false 1 Af) t0] ((fun r=>V.tup [(slr false 1 (slr false 1 Af)) r.1,V.bool r.2]) v):=by
 refine Lo Zc (Nat.le_of_ble_eq_true rfl) ?_
 unfold F5 at h
 conv=>whnf
 refine CutQ.o (fun t:(Unit ⊕ Unit)=>match t with | (.inl s)=>(Ex.normal,[3,1,2],[(3,A.val ((rP true (Ag false)) (a0))),(1,A.val ((slr false 1 Af) (pattern0))),(2,A.val ((slr false 1 Af) (t0)))]) | (.inr s)=>(Ex.ret,[7,6],[(7,A.val (V.bool (false))),(6,A.val ((slr true 1 (slr true 1 Af)) (A4 (List Int))))])) h ?_ ?_
 ·intro t h
  conv=>whnf
  refine Cells.lit rfl rfl ?_
  conv=>whnf
  refine CallQ.o V.bool (by first | rfl | simp only [Aa,V.fz,fzL,V.up,upL,Ab,Ac,Ad,slr,List.cons_append,List.nil_append] | simp [Aa,V.fz,fzL,V.up,upL,Ab,Ac,Ad,slr]) h (fun r h=>Iy h) (fun r1 h=> ?_)
  conv=>whnf
  refine Br.flip ?_
  conv=>whnf
  refine Br.ob h (fun p2 h=> ?_) (fun p2 h=> ?_)
  ·conv=>whnf
   refine Cells.lit rfl rfl ?_
   conv=>whnf
   refine Br.no ?_
   conv=>whnf
   refine Br.no ?_
   conv=>whnf
   refine CallQ.o V.bool (by first | rfl | simp only [Aa,V.fz,fzL,V.up,upL,Ab,Ac,Ad,slr,List.cons_append,List.nil_append] | simp [Aa,V.fz,fzL,V.up,upL,Ab,Ac,Ad,slr]) h (fun r h=>Io h) (fun r3 h=> ?_)
   conv=>whnf
   refine Br.no ?_
   conv=>whnf
   refine Br.no ?_
   conv=>whnf
   refine Br.flip ?_
   conv=>whnf
   refine Br.ob h (fun p4 h=> ?_) (fun p4 h=> ?_)
   ·conv=>whnf
    cases h;exact ⟨rfl,rfl⟩
   conv=>whnf
   refine BslQ.o (slr true 1 Af) (A4 (List Int)) (by exact fun _=>⟨rfl,rfl⟩) (by first | rfl | (simp only [Aa,V.fz,fzL,V.up,upL,Ab,Ac,Ad,slr,List.cons_append,List.nil_append];done) | simp [Aa,V.fz,fzL,V.up,upL,Ab,Ac,Ad,slr]) ?_
   conv=>whnf
   cases h;exact ⟨rfl,rfl⟩
  conv=>whnf
  refine Br.yes ?_
  conv=>whnf
  refine Br.yes ?_
  conv=>whnf
  refine Br.yes ?_
  conv=>whnf
  refine Br.yes ?_
  conv=>whnf
  refine Br.yes ?_
  conv=>whnf
  refine BslQ.o (slr true 1 Af) (A4 (List Int)) (by exact fun _=>⟨rfl,rfl⟩) (by first | rfl | (simp only [Aa,V.fz,fzL,V.up,upL,Ab,Ac,Ad,slr,List.cons_append,List.nil_append];done) | simp [Aa,V.fz,fzL,V.up,upL,Ab,Ac,Ad,slr]) ?_
  conv=>whnf
  cases h;exact ⟨rfl,rfl⟩
 rintro (⟨⟩ | ⟨⟩) h
 ·try dsimp only at h
  conv=>whnf
  refine Cells.lit rfl rfl ?_
  conv=>whnf
  refine CallQ.o (fun r=>V.tup [(slr true 1 rNe) r.1,V.bool r.2]) (by first | rfl | simp only [Aa,V.fz,fzL,V.up,upL,Ab,Ac,Ad,slr,List.cons_append,List.nil_append] | simp [Aa,V.fz,fzL,V.up,upL,Ab,Ac,Ad,slr]) h (fun r h=>Aao h) (fun r6 h=> ?_)
  conv=>whnf
  refine Br.flip ?_
  conv=>whnf
  refine Br.ob h (fun p7 h=> ?_) (fun p7 h=> ?_)
  ·conv=>whnf
   refine Len.map ?_
   conv=>whnf
   refine LoopQ.o [34,33,8] (F1 (↑r6.fst.length:Int)) Mm h (fun s o h=>Vo s o h) (by
    have e:r6.fst.map rNe=(r6.fst.map fun x=>(false,x)).map rBN:=by rw [List.map_map];rfl
    simp only [restrict,look,F1]
    rw [show slr true 1 rNe r6.fst=slr true 1 rBN (r6.fst.map fun x=>(false,x)) from congrArg (V.sl true 1) e]
    rfl) (fun _=>rfl) ?_
   rintro q8 h
   obtain ⟨p9,h⟩:=Fd.1 h
   conv=>whnf
   cases h
   simp only [Ah,V.fz,V.up,fzL,Av0 p9,slr]
  conv=>whnf
  refine BslQ.o (slr true 1 Af) (A4 (List Int)) (by exact fun _=>⟨rfl,rfl⟩) (by first | rfl | (simp only [Aa,V.fz,fzL,V.up,upL,Ab,Ac,Ad,slr,List.cons_append,List.nil_append];done) | simp [Aa,V.fz,fzL,V.up,upL,Ab,Ac,Ad,slr]) ?_
  conv=>whnf
  cases h;exact (by first | rfl | simp only [Ah,Aa,V.fz,fzL,V.up,upL,Ab,Ac,Ad,slr] | simp [Ah,Aa,V.fz,fzL,V.up,upL,Ab,Ac,Ad,slr])
 try dsimp only at h
 conv=>whnf
 cases h;exact (by first | rfl | simp only [Ah,Aa,V.fz,fzL,V.up,upL,Ab,Ac,Ad,slr] | simp [Ah,Aa,V.fz,fzL,V.up,upL,Ab,Ac,Ad,slr])
noncomputable def Gf (a0:SAlgebra) (pattern0:(List Int)) (t0:(List Int)):Option ((List (List Int))×Bool):=
 (((Cq (a0) (pattern0)).bind fun r1=>
 if (r1)=true then
 (E0 (a0) (t0)).bind fun r3=>
 if (r3)=true then
 some (.inl ())
 else
 some (.inr ())
 else
 some (.inr ()):Option (Unit ⊕ Unit))).bind fun t=>match t with
 | (.inl _)=>((Hi (a0) (pattern0) (t0)).bind fun r6=>
 if (r6.snd)=true then
 some (r6.fst,true)
 else
 some (A4 (List Int),false))
 | (.inr _)=>(some (A4 (List Int),false))
theorem Zo {a0:SAlgebra} {pattern0:(List Int)} {t0:(List Int)} {v:((List (List Int))×Bool)} (h:Gf a0 pattern0 t0=some v):Ret Tryd.prog Kz [(Ag false) a0,(slr false 1 Af) pattern0,(slr false 1 Af) t0] ((fun r=>V.tup [(slr false 1 (slr false 1 Af)) r.1,V.bool r.2]) v):=by
 refine Lo Za (Nat.le_of_ble_eq_true rfl) ?_
 unfold Gf at h
 conv=>whnf
 refine CutQ.o (fun t:(Unit ⊕ Unit)=>match t with | (.inl s)=>(Ex.normal,[3,1,2],[(3,A.val ((rP true (Ag false)) (a0))),(1,A.val ((slr false 1 Af) (pattern0))),(2,A.val ((slr false 1 Af) (t0)))]) | (.inr s)=>(Ex.ret,[7,6],[(7,A.val (V.bool (false))),(6,A.val ((slr true 1 (slr true 1 Af)) (A4 (List Int))))])) h ?_ ?_
 ·intro t h
  conv=>whnf
  refine Cells.lit rfl rfl ?_
  conv=>whnf
  refine CallQ.o V.bool (by first | rfl | simp only [Aa,V.fz,fzL,V.up,upL,Ab,Ac,Ad,slr,List.cons_append,List.nil_append] | simp [Aa,V.fz,fzL,V.up,upL,Ab,Ac,Ad,slr]) h (fun r h=>Fb h) (fun r1 h=> ?_)
  conv=>whnf
  refine Br.flip ?_
  conv=>whnf
  refine Br.ob h (fun p2 h=> ?_) (fun p2 h=> ?_)
  ·conv=>whnf
   refine Cells.lit rfl rfl ?_
   conv=>whnf
   refine Br.no ?_
   conv=>whnf
   refine Br.no ?_
   conv=>whnf
   refine CallQ.o V.bool (by first | rfl | simp only [Aa,V.fz,fzL,V.up,upL,Ab,Ac,Ad,slr,List.cons_append,List.nil_append] | simp [Aa,V.fz,fzL,V.up,upL,Ab,Ac,Ad,slr]) h (fun r h=>Lc h) (fun r3 h=> ?_)
   conv=>whnf
   refine Br.no ?_
   conv=>whnf
   refine Br.no ?_
   conv=>whnf
   refine Br.flip ?_
   conv=>whnf
   refine Br.ob h (fun p4 h=> ?_) (fun p4 h=> ?_)
   ·conv=>whnf
    cases h;exact ⟨rfl,rfl⟩
   conv=>whnf
   refine BslQ.o (slr true 1 Af) (A4 (List Int)) (by exact fun _=>⟨rfl,rfl⟩) (by first | rfl | (simp only [Aa,V.fz,fzL,V.up,upL,Ab,Ac,Ad,slr,List.cons_append,List.nil_append];done) | simp [Aa,V.fz,fzL,V.up,upL,Ab,Ac,Ad,slr]) ?_
   conv=>whnf
   cases h;exact ⟨rfl,rfl⟩
  conv=>whnf
  refine Br.yes ?_
  conv=>whnf
  refine Br.yes ?_
  conv=>whnf
  refine Br.yes ?_
  conv=>whnf
  refine Br.yes ?_
  conv=>whnf
  refine Br.yes ?_
  conv=>whnf
  refine BslQ.o (slr true 1 Af) (A4 (List Int)) (by exact fun _=>⟨rfl,rfl⟩) (by first | rfl | (simp only [Aa,V.fz,fzL,V.up,upL,Ab,Ac,Ad,slr,List.cons_append,List.nil_append];done) | simp [Aa,V.fz,fzL,V.up,upL,Ab,Ac,Ad,slr]) ?_
  conv=>whnf
  cases h;exact ⟨rfl,rfl⟩
 rintro (⟨⟩ | ⟨⟩) h
 ·try dsimp only at h
  conv=>whnf
  refine Cells.lit rfl rfl ?_
  conv=>whnf
  refine CallQ.o (fun r=>V.tup [(slr false 1 (slr false 1 Af)) r.1,V.bool r.2]) (by first | rfl | simp only [Aa,V.fz,fzL,V.up,upL,Ab,Ac,Ad,slr,List.cons_append,List.nil_append] | simp [Aa,V.fz,fzL,V.up,upL,Ab,Ac,Ad,slr]) h (fun r h=>Afc h) (fun r6 h=> ?_)
  conv=>whnf
  refine Br.flip ?_
  conv=>whnf
  refine Br.ob h (fun p7 h=> ?_) (fun p7 h=> ?_)
  ·conv=>whnf
   cases h;exact (by first | rfl | simp only [Ah,Aa,V.fz,fzL,V.up,upL,Ab,Ac,Ad,slr] | simp [Ah,Aa,V.fz,fzL,V.up,upL,Ab,Ac,Ad,slr])
  conv=>whnf
  refine BslQ.o (slr true 1 Af) (A4 (List Int)) (by exact fun _=>⟨rfl,rfl⟩) (by first | rfl | (simp only [Aa,V.fz,fzL,V.up,upL,Ab,Ac,Ad,slr,List.cons_append,List.nil_append];done) | simp [Aa,V.fz,fzL,V.up,upL,Ab,Ac,Ad,slr]) ?_
  conv=>whnf
  cases h;exact (by first | rfl | simp only [Ah,Aa,V.fz,fzL,V.up,upL,Ab,Ac,Ad,slr] | simp [Ah,Aa,V.fz,fzL,V.up,upL,Ab,Ac,Ad,slr])
 try dsimp only at h
 conv=>whnf
 cases h;exact (by first | rfl | simp only [Ah,Aa,V.fz,fzL,V.up,upL,Ab,Ac,Ad,slr] | simp [Ah,Aa,V.fz,fzL,V.up,upL,Ab,Ac,Ad,slr])
noncomputable def Ek (a0:SAlgebra) (t0:(List Int)) (terms0:(List (List Int))):Option ((List Int)×Bool):=
 (D5 (a0) (t0)).bind fun r1=>
 if (r1)=true then
 if (↑terms0.length:Int)>(6:Int) then
 some (A4 Int,false)
 else
 (Gx (a0) (terms0)).bind fun r4=>
 if (r4)=true then
 (Fp (t0) (terms0)).bind fun r6=>
 some r6
 else
 some (A4 Int,false)
 else
 some (A4 Int,false)
theorem Uw {a0:SAlgebra} {t0:(List Int)} {terms0:(List (List Int))} {v:((List Int)×Bool)} (h:Ek a0 t0 terms0=some v):Ret Tryd.prog Ie [(Ag false) a0,(slr false 1 Af) t0,(slr false 1 (slr false 1 Af)) terms0] ((fun r=>V.tup [(slr true 1 Af) r.1,V.bool r.2]) v):=by
 refine Bp Uz (Nat.le_of_ble_eq_true rfl) ?_
 unfold Ek at h
 conv=>whnf
 refine Cells.lit rfl rfl ?_
 conv=>whnf
 refine CallQ.o V.bool (by first | rfl | simp only [Aa,V.fz,fzL,V.up,upL,Ab,Ac,Ad,slr,List.cons_append,List.nil_append] | simp [Aa,V.fz,fzL,V.up,upL,Ab,Ac,Ad,slr]) h (fun r h=>Iy h) (fun r1 h=> ?_)
 conv=>whnf
 refine Br.flip ?_
 conv=>whnf
 refine Br.ob h (fun p2 h=> ?_) (fun p2 h=> ?_)
 ·conv=>whnf
  refine Br.no ?_
  conv=>whnf
  refine Len.map ?_
  conv=>whnf
  refine Br.no ?_
  conv=>whnf
  refine Br.no ?_
  conv=>whnf
  refine Br.od h (fun p3 h=> ?_) (fun p3 h=> ?_)
  ·conv=>whnf
   refine Br.yes ?_
   conv=>whnf
   refine Br.yes ?_
   conv=>whnf
   refine Br.yes ?_
   conv=>whnf
   refine Br.yes ?_
   conv=>whnf
   refine Br.yes ?_
   conv=>whnf
   refine BslQ.o Af (A4 Int) (by exact fun _=>⟨rfl,rfl⟩) (by first | rfl | (simp only [Aa,V.fz,fzL,V.up,upL,Ab,Ac,Ad,slr,List.cons_append,List.nil_append];done) | simp [Aa,V.fz,fzL,V.up,upL,Ab,Ac,Ad,slr]) ?_
   conv=>whnf
   cases h;exact (by first | rfl | simp only [Ah,Aa,V.fz,fzL,V.up,upL,Ab,Ac,Ad,slr] | simp [Ah,Aa,V.fz,fzL,V.up,upL,Ab,Ac,Ad,slr])
  conv=>whnf
  refine Cells.lit rfl rfl ?_
  conv=>whnf
  refine Br.no ?_
  conv=>whnf
  refine Br.no ?_
  conv=>whnf
  refine CallQ.o V.bool (by first | rfl | simp only [Aa,V.fz,fzL,V.up,upL,Ab,Ac,Ad,slr,List.cons_append,List.nil_append] | simp [Aa,V.fz,fzL,V.up,upL,Ab,Ac,Ad,slr]) h (fun r h=>Ab5 h) (fun r4 h=> ?_)
  conv=>whnf
  refine Br.no ?_
  conv=>whnf
  refine Br.no ?_
  conv=>whnf
  refine Br.flip ?_
  conv=>whnf
  refine Br.ob h (fun p5 h=> ?_) (fun p5 h=> ?_)
  ·conv=>whnf
   refine CallQ.o (fun r=>V.tup [(slr true 1 Af) r.1,V.bool r.2]) (by first | rfl | simp only [Aa,V.fz,fzL,V.up,upL,Ab,Ac,Ad,slr,List.cons_append,List.nil_append] | simp [Aa,V.fz,fzL,V.up,upL,Ab,Ac,Ad,slr]) h (fun r h=>Xp h) (fun r6 h=> ?_)
   conv=>whnf
   cases h;exact (by first | rfl | simp only [Ah,Aa,V.fz,fzL,V.up,upL,Ab,Ac,Ad,slr] | simp [Ah,Aa,V.fz,fzL,V.up,upL,Ab,Ac,Ad,slr])
  conv=>whnf
  refine BslQ.o Af (A4 Int) (by exact fun _=>⟨rfl,rfl⟩) (by first | rfl | (simp only [Aa,V.fz,fzL,V.up,upL,Ab,Ac,Ad,slr,List.cons_append,List.nil_append];done) | simp [Aa,V.fz,fzL,V.up,upL,Ab,Ac,Ad,slr]) ?_
  conv=>whnf
  cases h;exact (by first | rfl | simp only [Ah,Aa,V.fz,fzL,V.up,upL,Ab,Ac,Ad,slr] | simp [Ah,Aa,V.fz,fzL,V.up,upL,Ab,Ac,Ad,slr])
 conv=>whnf
 refine Br.yes ?_
 conv=>whnf
 refine Br.yes ?_
 conv=>whnf
 refine Br.yes ?_
 conv=>whnf
 refine Br.yes ?_
 conv=>whnf
 refine Br.yes ?_
 conv=>whnf
 refine Br.yes ?_
 conv=>whnf
 refine Br.yes ?_
 conv=>whnf
 refine Br.yes ?_
 conv=>whnf
 refine Br.yes ?_
 conv=>whnf
 refine BslQ.o Af (A4 Int) (by exact fun _=>⟨rfl,rfl⟩) (by first | rfl | (simp only [Aa,V.fz,fzL,V.up,upL,Ab,Ac,Ad,slr,List.cons_append,List.nil_append];done) | simp [Aa,V.fz,fzL,V.up,upL,Ab,Ac,Ad,slr]) ?_
 conv=>whnf
 cases h;exact (by first | rfl | simp only [Ah,Aa,V.fz,fzL,V.up,upL,Ab,Ac,Ad,slr] | simp [Ah,Aa,V.fz,fzL,V.up,upL,Ab,Ac,Ad,slr])
noncomputable def Cy (a0:SAlgebra) (s0:(List Int)) (t0:(List Int)):Option (Int×Bool):=
 (D5 (a0) (s0)).bind fun r1=>
 if (r1)=true then
 (D8 (a0) (t0)).bind fun r3=>
 if (r3)=true then
 (Er (s0) (t0)).bind fun r5=>
 some (r5,true)
 else
 some ((0:Int),false)
 else
 some ((0:Int),false)
theorem Ms {a0:SAlgebra} {s0:(List Int)} {t0:(List Int)} {v:(Int×Bool)} (h:Cy a0 s0 t0=some v):Ret Tryd.prog F2 [(Ag false) a0,(slr false 1 Af) s0,(slr false 1 Af) t0] ((fun r=>V.tup [Af r.1,V.bool r.2]) v):=by
 refine Bp Ui (Nat.le_of_ble_eq_true rfl) ?_
 unfold Cy at h
 conv=>whnf
 refine Cells.lit rfl rfl ?_
 conv=>whnf
 refine CallQ.o V.bool (by first | rfl | simp only [Aa,V.fz,fzL,V.up,upL,Ab,Ac,Ad,slr,List.cons_append,List.nil_append] | simp [Aa,V.fz,fzL,V.up,upL,Ab,Ac,Ad,slr]) h (fun r h=>Iy h) (fun r1 h=> ?_)
 conv=>whnf
 refine Br.flip ?_
 conv=>whnf
 refine Br.ob h (fun p2 h=> ?_) (fun p2 h=> ?_)
 ·conv=>whnf
  refine Cells.lit rfl rfl ?_
  conv=>whnf
  refine Br.no ?_
  conv=>whnf
  refine Br.no ?_
  conv=>whnf
  refine CallQ.o V.bool (by first | rfl | simp only [Aa,V.fz,fzL,V.up,upL,Ab,Ac,Ad,slr,List.cons_append,List.nil_append] | simp [Aa,V.fz,fzL,V.up,upL,Ab,Ac,Ad,slr]) h (fun r h=>Io h) (fun r3 h=> ?_)
  conv=>whnf
  refine Br.no ?_
  conv=>whnf
  refine Br.no ?_
  conv=>whnf
  refine Br.flip ?_
  conv=>whnf
  refine Br.ob h (fun p4 h=> ?_) (fun p4 h=> ?_)
  ·conv=>whnf
   refine CallQ.o Af (by first | rfl | simp only [Aa,V.fz,fzL,V.up,upL,Ab,Ac,Ad,slr,List.cons_append,List.nil_append] | simp [Aa,V.fz,fzL,V.up,upL,Ab,Ac,Ad,slr]) h (fun r h=>Vw h) (fun r5 h=> ?_)
   conv=>whnf
   cases h;exact (by first | rfl | simp only [Ah,Aa,V.fz,fzL,V.up,upL,Ab,Ac,Ad,slr] | simp [Ah,Aa,V.fz,fzL,V.up,upL,Ab,Ac,Ad,slr])
  conv=>whnf
  cases h;exact (by first | rfl | simp only [Ah,Aa,V.fz,fzL,V.up,upL,Ab,Ac,Ad,slr] | simp [Ah,Aa,V.fz,fzL,V.up,upL,Ab,Ac,Ad,slr])
 conv=>whnf
 refine Br.yes ?_
 conv=>whnf
 refine Br.yes ?_
 conv=>whnf
 refine Br.yes ?_
 conv=>whnf
 refine Br.yes ?_
 conv=>whnf
 refine Br.yes ?_
 conv=>whnf
 cases h;exact (by first | rfl | simp only [Ah,Aa,V.fz,fzL,V.up,upL,Ab,Ac,Ad,slr] | simp [Ah,Aa,V.fz,fzL,V.up,upL,Ab,Ac,Ad,slr])
noncomputable def Dr (a0:SAlgebra) (s0:(List Int)) (t0:(List Int)):Option (Int×Bool):=
 (((Cq (a0) (s0)).bind fun r1=>
 if (r1)=true then
 (E0 (a0) (t0)).bind fun r3=>
 if (r3)=true then
 some (.inl ())
 else
 some (.inr ())
 else
 some (.inr ()):Option (Unit ⊕ Unit))).bind fun t=>match t with
 | (.inl _)=>((Fj (s0) (t0)).bind fun r6=>
 if (r6)=true then
 some ((-1:Int),true)
 else
 (Fj (t0) (s0)).bind fun r8=>
 if (r8)=true then
 some ((1:Int),true)
 else
 some ((0:Int),true))
 | (.inr _)=>(some ((0:Int),false))
theorem U5 {a0:SAlgebra} {s0:(List Int)} {t0:(List Int)} {v:(Int×Bool)} (h:Dr a0 s0 t0=some v):Ret Tryd.prog Ih [(Ag false) a0,(slr false 1 Af) s0,(slr false 1 Af) t0] ((fun r=>V.tup [Af r.1,V.bool r.2]) v):=by
 refine Bp Vi (Nat.le_of_ble_eq_true rfl) ?_
 unfold Dr at h
 conv=>whnf
 refine CutQ.o (fun t:(Unit ⊕ Unit)=>match t with | (.inl s)=>(Ex.normal,[1,2],[(1,A.val ((slr false 1 Af) (s0))),(2,A.val ((slr false 1 Af) (t0)))]) | (.inr s)=>(Ex.ret,[7,6],[(7,A.val (V.bool (false))),(6,A.val (Af ((0:Int))))])) h ?_ ?_
 ·intro t h
  conv=>whnf
  refine Cells.lit rfl rfl ?_
  conv=>whnf
  refine CallQ.o V.bool (by first | rfl | simp only [Aa,V.fz,fzL,V.up,upL,Ab,Ac,Ad,slr,List.cons_append,List.nil_append] | simp [Aa,V.fz,fzL,V.up,upL,Ab,Ac,Ad,slr]) h (fun r h=>Fb h) (fun r1 h=> ?_)
  conv=>whnf
  refine Br.flip ?_
  conv=>whnf
  refine Br.ob h (fun p2 h=> ?_) (fun p2 h=> ?_)
  ·conv=>whnf
   refine Cells.lit rfl rfl ?_
   conv=>whnf
   refine Br.no ?_
   conv=>whnf
   refine Br.no ?_
   conv=>whnf
   refine CallQ.o V.bool (by first | rfl | simp only [Aa,V.fz,fzL,V.up,upL,Ab,Ac,Ad,slr,List.cons_append,List.nil_append] | simp [Aa,V.fz,fzL,V.up,upL,Ab,Ac,Ad,slr]) h (fun r h=>Lc h) (fun r3 h=> ?_)
   conv=>whnf
   refine Br.no ?_
   conv=>whnf
   refine Br.no ?_
   conv=>whnf
   refine Br.flip ?_
   conv=>whnf
   refine Br.ob h (fun p4 h=> ?_) (fun p4 h=> ?_)
   ·conv=>whnf
    cases h;exact ⟨rfl,rfl⟩
   conv=>whnf
   cases h;exact ⟨rfl,rfl⟩
  conv=>whnf
  refine Br.yes ?_
  conv=>whnf
  refine Br.yes ?_
  conv=>whnf
  refine Br.yes ?_
  conv=>whnf
  refine Br.yes ?_
  conv=>whnf
  refine Br.yes ?_
  conv=>whnf
  cases h;exact ⟨rfl,rfl⟩
 rintro (⟨⟩ | ⟨⟩) h
 ·try dsimp only at h
  conv=>whnf
  refine CallQ.o V.bool (by first | rfl | simp only [Aa,V.fz,fzL,V.up,upL,Ab,Ac,Ad,slr,List.cons_append,List.nil_append] | simp [Aa,V.fz,fzL,V.up,upL,Ab,Ac,Ad,slr]) h (fun r h=>R0 h) (fun r6 h=> ?_)
  conv=>whnf
  refine Br.ob h (fun p7 h=> ?_) (fun p7 h=> ?_)
  ·conv=>whnf
   cases h;exact (by first | rfl | simp only [Ah,Aa,V.fz,fzL,V.up,upL,Ab,Ac,Ad,slr] | simp [Ah,Aa,V.fz,fzL,V.up,upL,Ab,Ac,Ad,slr])
  conv=>whnf
  refine CallQ.o V.bool (by first | rfl | simp only [Aa,V.fz,fzL,V.up,upL,Ab,Ac,Ad,slr,List.cons_append,List.nil_append] | simp [Aa,V.fz,fzL,V.up,upL,Ab,Ac,Ad,slr]) h (fun r h=>R0 h) (fun r8 h=> ?_)
  conv=>whnf
  refine Br.ob h (fun p9 h=> ?_) (fun p9 h=> ?_)
  ·conv=>whnf
   cases h;exact (by first | rfl | simp only [Ah,Aa,V.fz,fzL,V.up,upL,Ab,Ac,Ad,slr] | simp [Ah,Aa,V.fz,fzL,V.up,upL,Ab,Ac,Ad,slr])
  conv=>whnf
  cases h;exact (by first | rfl | simp only [Ah,Aa,V.fz,fzL,V.up,upL,Ab,Ac,Ad,slr] | simp [Ah,Aa,V.fz,fzL,V.up,upL,Ab,Ac,Ad,slr])
 try dsimp only at h
 conv=>whnf
 cases h;exact (by first | rfl | simp only [Ah,Aa,V.fz,fzL,V.up,upL,Ab,Ac,Ad,slr] | simp [Ah,Aa,V.fz,fzL,V.up,upL,Ab,Ac,Ad,slr])
end Go.Proofs.YtbnoclklhcbidaaDoor.Ax
