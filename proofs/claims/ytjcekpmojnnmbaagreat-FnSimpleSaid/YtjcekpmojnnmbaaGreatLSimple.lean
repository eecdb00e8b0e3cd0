/-
 What the functions compute, as functions on plain data, and that the program does compute it; written by program.
-/
import Derived.Test.YtjcekpmojnnmbaaGreatCode
import Derived.Test.YtjcekpmojnnmbaaGreatG1
import Derived.Test.YtjcekpmojnnmbaaGreatG3
import Derived.Test.YtjcekpmojnnmbaaGreatG7
import Derived.Test.YtjcekpmojnnmbaaGreatG10
import Derived.Test.YtjcekpmojnnmbaaGreatG11
namespace Go.Proofs.YtjcekpmojnnmbaaGreat.Ax
open Go
set_option maxRecDepth 100000
set_option maxHeartbeats 4000000
noncomputable def Dj (r3:SAlgebra) (r9:List Int×Bool) (r22:List (List Int)×Bool):Int→Option (Int ⊕ (Unit ⊕ Unit)):=fun x26=>
 if x26<(↑r22.fst.length:Int) then
 ask ((0:Int)≤x26∧x26<(↑r22.fst.length:Int)) <|
 (Ja (r3.Size) (r9.fst) (nth r22.fst x26.toNat)).bind fun r54=>
 ask ((0:Int)≤x26∧x26<(↑r22.fst.length:Int)) <|
 (Hx (r3.Size) (nth r22.fst x26.toNat)).bind fun r56=>
 if (r54.snd)=true then
 if (r56.snd)=true then
 if (r54.fst==decide ((↑r56.fst.length:Int)<r3.Size))=true then
 ask (InI (x26+(1:Int))) <|
 some (.inl (x26+(1:Int)))
 else
 some (.inr (.inl ()))
 else
 some (.inr (.inl ()))
 else
 some (.inr (.inl ()))
 else
 some (.inr (.inr ()))
def K2 (r3:SAlgebra) (r9:List Int×Bool) (r22:List (List Int)×Bool):Int→St:=fun s=>[(26,A.val (Af s)),(16,A.val ((slr true 1 (slr true 1 Af)) (r22.fst))),(8,A.val ((slr false 1 Af) (r9.fst))),(3,A.val ((rP true (Ai false)) (r3)))]
def P9 (_r3:SAlgebra) (_r9:List Int×Bool) (_r22:List (List Int)×Bool):(Unit ⊕ Unit)→Tgt
 | (.inl _s)=>(Ex.ret,[2],[(2,A.val (V.bool (false)))])
 | (.inr _s)=>((Ex.exit 0),[],[])
theorem Aag {r3:SAlgebra} {r9:List Int×Bool} {r22:List (List Int)×Bool} (x26:Int) (o:Int ⊕ (Unit ⊕ Unit)) (h:Dj r3 r9 r22 x26=some o):vc Tryz.prog Rj (Dl [26,16,8,3] (K2 r3 r9 r22) (P9 r3 r9 r22) o) (K2 r3 r9 r22 x26):=by
 unfold Dj at h
 try dsimp only at h
 refine Len.map<|Br.od h (fun p52 h=> ?_) (fun p52 h=> ?_)
 ·refine Cells.lit rfl rfl<|Len.map<|Ask.o h fun p53 h=>Cells.one (fun _=>⟨rfl,rfl⟩) (by first | omega | (simp [Ap] at * <;> omega))<|Kid.one (fun _=>⟨rfl,rfl⟩) (by first | omega | (simp [Ap] at * <;> omega))<|CallP.rd (fun r=>V.tup [V.bool r.1,V.bool r.2]) (by first | rfl | simp only [Aa,V.fz,V.up,Ab,slr] | simp [Aa,V.fz,fzL,V.up,upL,Ab,Ac,Ad,slr]) (fun _=>by simp [V.noFz,Ca]) h (fun r h=>Aij h) (fun r54 h=> ?_)
  refine Cells.lit rfl rfl<|Len.map<|Ask.o h fun p55 h=>Cells.one (fun _=>⟨rfl,rfl⟩) (by first | omega | (simp [Ap] at * <;> omega))<|Kid.one (fun _=>⟨rfl,rfl⟩) (by first | omega | (simp [Ap] at * <;> omega))<|CallP.rd (fun r=>V.tup [(slr true 1 (slr true 1 Af)) r.1,V.bool r.2]) (by first | rfl | simp only [Aa,V.fz,Ab,slr] | simp [Aa,V.fz,fzL,V.up,upL,Ab,Ac,Ad,slr]) (fun _=>by simp [V.noFz,Ca,Bo]) h (fun r h=>Agz h) (fun r56 h=> ?_)
  refine Br.flip<|Br.ob h (fun p57 h=> ?_) (fun p57 h=> ?_)
  ·refine Br.no<|Br.no<|Br.flip<|Br.ob h (fun p58 h=> ?_) (fun p58 h=> ?_)
   ·refine Br.no<|Br.no<|Len.map<|Br.no<|Br.no<|Cells.lit rfl rfl<|Br.no<|Br.no<|Br.no<|Br.flip<|Br.ob h (fun p59 h=> ?_) (fun p59 h=> ?_)
    ·refine Ask.o h fun p60 h=> ?_
     cases h;exact ⟨rfl,rfl⟩
    cases h;exact ⟨rfl,rfl⟩
   refine Br.yes<|Br.yes<|Br.yes<|Br.yes<|Br.yes<|Br.yes<|Br.yes<|Br.yes ?_
   cases h;exact ⟨rfl,rfl⟩
  refine Br.yes<|Br.yes<|Br.yes<|Br.yes<|Br.yes<|Br.yes<|Br.yes<|Br.yes<|Br.yes<|Br.yes<|Br.yes ?_
  cases h;exact ⟨rfl,rfl⟩
 cases h;exact ⟨rfl,rfl⟩
noncomputable def Kl (code0:(List Int)):Option Bool:=
 (Sg (code0)).bind fun r1=>
 if (r1)=true then
 some true
 else
 (Fl (code0)).bind fun r3=>
 (Fj (r3)).bind fun r4=>
 (((Fi (r3)).bind fun r5=>
 if (r4.fst==r5.fst)=true then
 if (r4.snd==r5.snd)=true then
 some (.inl ())
 else
 some (.inr ())
 else
 some (.inr ()):Option (Unit ⊕ Unit))).bind fun t=>match t with
 | (.inl _)=>((D1 (r3)).bind fun r9=>
 (((D0 (r3)).bind fun r10=>
 if (r9.snd==r10.snd)=true then
 (Es (r9.fst) (r10.fst)).bind fun r12=>
 if (r12)=true then
 some (.inl ())
 else
 some (.inr ())
 else
 some (.inr ()):Option (Unit ⊕ Unit))).bind fun t=>match t with
 | (.inl _)=>((Bu (r3)).bind fun r15=>
 (((Bv (r3)).bind fun r16=>
 if r15.fst≠r16.fst then
 some (.inl ())
 else
 if (r15.snd==r16.snd)=true then
 if (r15.snd==r4.snd)=true then
 some (.inr ())
 else
 some (.inl ())
 else
 some (.inl ()):Option (Unit ⊕ Unit))).bind fun t=>match t with
 | (.inl _)=>(some false)
 | (.inr _)=>(if (r4.snd)=true then
 (Ef (r3)).bind fun r22=>
 (((Ed (r3)).bind fun r23=>
 if (r22.snd==r23.snd)=true then
 if (r22.snd)=true then
 (H6 (r22.fst) (r23.fst)).bind fun r26=>
 if (r26)=true then
 if (r4.fst==((↑r22.fst.length:Int)==(2:Int)))=true then
 some (.inl ())
 else
 some (.inr ())
 else
 some (.inr ())
 else
 some (.inr ())
 else
 some (.inr ()):Option (Unit ⊕ Unit))).bind fun t=>match t with
 | (.inl _)=>((C6 (r3)).bind fun r30=>
 (((C7 (r3)).bind fun r31=>
 if (r30.snd==r31.snd)=true then
 if (r30.snd)=true then
 (H6 (r30.fst) (r31.fst)).bind fun r34=>
 if (r34)=true then
 some (.inl ())
 else
 some (.inr ())
 else
 some (.inr ())
 else
 some (.inr ()):Option (Unit ⊕ Unit))).bind fun t=>match t with
 | (.inl _)=>((Cr (r3)).bind fun r37=>
 ((if (r37.snd)=true then
 if (r37.fst==r9.snd)=true then
 if (r9.snd==((↑r30.fst.length:Int)==(1:Int)))=true then
 if r15.fst<(↑r30.fst.length:Int) then
 some (.inl ())
 else
 if r15.fst<(1:Int) then
 some (.inl ())
 else
 if r15.fst>(↑r22.fst.length:Int) then
 some (.inl ())
 else
 some (.inr ())
 else
 some (.inl ())
 else
 some (.inl ())
 else
 some (.inl ()):Option (Unit ⊕ Unit))).bind fun t=>match t with
 | (.inl _)=>(some false)
 | (.inr _)=>(((if (r4.fst)=true then
 if (r9.snd)=true then
 ask ((0:Int)≤r3.Size∧r3.Size≤(↑LIM:Int)) <|
 (Es (r9.fst) (List.replicate r3.Size.toNat (0:Int))).bind fun r48=>
 if (r48)=true then
 some (.inl ())
 else
 some (.inr ())
 else
 some (.inr ())
 else
 some (.inl ()):Option (Unit ⊕ Unit))).bind fun t=>match t with
 | (.inl _)=>(if (r9.snd)=true then
 (Al (Dj r3 r9 r22) (0:Int)).bind fun t=>match t with
 | (.inl _)=>(some false)
 | (.inr _)=>(some true)
 else
 some true)
 | (.inr _)=>(some false)))
 | (.inr _)=>(some false))
 | (.inr _)=>(some false)
 else
 some !r9.snd))
 | (.inr _)=>(some false))
 | (.inr _)=>(some false)
theorem Ag6 {code0:(List Int)} {v:Bool} (h:Kl code0=some v):Ret Tryz.prog Wh [(slr false 1 (V.int IntKind.u8)) code0] (V.bool v):=by
 refine A5 Agj (Nat.le_of_ble_eq_true rfl) ?_
 unfold Kl at h
 refine CallQ.o V.bool (by rfl) h (fun r h=>Ar7 h) (fun r1 h=> ?_)
 refine Br.ob h (fun p2 h=> ?_) (fun p2 h=> ?_)
 ·cases h;exact (by rfl)
 refine CallQ.o (Ai false) (by rfl) h (fun r h=>Zu h) (fun r3 h=> ?_)
 refine SetKids.lit rfl<|Cells.lit rfl rfl<|CallQ.o (fun r=>V.tup [V.bool r.1,V.bool r.2]) (by rfl) h (fun r h=>Aho h) (fun r4 h=> ?_)
 refine CutQ.o (fun t:(Unit ⊕ Unit)=>match t with | (.inl s)=>(Ex.normal,[5,4,3],[(5,A.val (V.bool (r4.snd))),(4,A.val (V.bool (r4.fst))),(3,A.val ((rP true (Ai false)) (r3)))]) | (.inr s)=>(Ex.ret,[2],[(2,A.val (V.bool (false)))])) h ?_ ?_
 ·intro t h
  refine Cells.lit rfl rfl<|CallQ.o (fun r=>V.tup [V.bool r.1,V.bool r.2]) (by rfl) h (fun r h=>Agv h) (fun r5 h=> ?_)
  refine Br.flip<|Br.ob h (fun p6 h=> ?_) (fun p6 h=> ?_)
  ·refine Br.no<|Br.no<|Br.no<|Br.flip<|Br.ob h (fun p7 h=> ?_) (fun p7 h=> ?_)
   ·cases h;exact ⟨rfl,rfl⟩
   cases h;exact ⟨rfl,rfl⟩
  refine Br.yes<|Br.yes<|Br.yes<|Br.yes ?_
  cases h;exact ⟨rfl,rfl⟩
 rintro (⟨⟩ | ⟨⟩) h
 ·try dsimp only at h
  refine Cells.lit rfl rfl<|CallQ.o (fun r=>V.tup [(slr false 1 Af) r.1,V.bool r.2]) (by rfl) h (fun r h=>Adm h) (fun r9 h=> ?_)
  refine CutQ.o (fun t:(Unit ⊕ Unit)=>match t with | (.inl s)=>(Ex.normal,[9,8,5,4,3],[(9,A.val (V.bool (r9.snd))),(8,A.val ((slr false 1 Af) (r9.fst))),(5,A.val (V.bool (r4.snd))),(4,A.val (V.bool (r4.fst))),(3,A.val ((rP true (Ai false)) (r3)))]) | (.inr s)=>(Ex.ret,[2],[(2,A.val (V.bool (false)))])) h ?_ ?_
  ·intro t h
   refine Cells.lit rfl rfl<|CallQ.o (fun r=>V.tup [(slr false 1 Af) r.1,V.bool r.2]) (by rfl) h (fun r h=>Ack h) (fun r10 h=> ?_)
   refine Br.flip<|Br.ob h (fun p11 h=> ?_) (fun p11 h=> ?_)
   ·refine Br.no<|Br.no<|CallQ.o V.bool (by rfl) h (fun r h=>Vl h) (fun r12 h=> ?_)
    refine Br.no<|Br.no<|Br.flip<|Br.ob h (fun p13 h=> ?_) (fun p13 h=> ?_)
    ·cases h;exact ⟨rfl,rfl⟩
    cases h;exact ⟨rfl,rfl⟩
   refine Br.yes<|Br.yes<|Br.yes<|Br.yes<|Br.yes ?_
   cases h;exact ⟨rfl,rfl⟩
  rintro (⟨⟩ | ⟨⟩) h
  ·try dsimp only at h
   refine Cells.lit rfl rfl<|CallQ.o (fun r=>V.tup [Af r.1,V.bool r.2]) (by rfl) h (fun r h=>Rn h) (fun r15 h=> ?_)
   refine CutQ.o (fun t:(Unit ⊕ Unit)=>match t with | (.inl s)=>(Ex.ret,[2],[(2,A.val (V.bool (false)))]) | (.inr s)=>(Ex.normal,[12,9,8,5,4,3],[(12,A.val (Af (r15.fst))),(9,A.val (V.bool (r9.snd))),(8,A.val ((slr false 1 Af) (r9.fst))),(5,A.val (V.bool (r4.snd))),(4,A.val (V.bool (r4.fst))),(3,A.val ((rP true (Ai false)) (r3)))])) h ?_ ?_
   ·intro t h
    refine Cells.lit rfl rfl<|CallQ.o (fun r=>V.tup [Af r.1,V.bool r.2]) (by rfl) h (fun r h=>R6 h) (fun r16 h=> ?_)
    refine Br.on h (fun p17 h=> ?_) (fun p17 h=> ?_)
    ·refine Br.yes<|Br.yes<|Br.yes<|Br.yes<|Br.yes<|Br.yes<|Br.yes<|Br.yes ?_
     cases h;exact ⟨rfl,rfl⟩
    refine Br.no<|Br.no<|Br.no<|Br.flip<|Br.ob h (fun p18 h=> ?_) (fun p18 h=> ?_)
    ·refine Br.no<|Br.no<|Br.no<|Br.flip<|Br.ob h (fun p19 h=> ?_) (fun p19 h=> ?_)
     ·cases h;exact ⟨rfl,rfl⟩
     cases h;exact ⟨rfl,rfl⟩
    refine Br.yes<|Br.yes<|Br.yes<|Br.yes ?_
    cases h;exact ⟨rfl,rfl⟩
   rintro (⟨⟩ | ⟨⟩) h
   ·try dsimp only at h
    cases h;exact (by rfl)
   try dsimp only at h
   refine Br.flip<|Br.ob h (fun p21 h=> ?_) (fun p21 h=> ?_)
   ·refine Cells.lit rfl rfl<|CallQ.o (fun r=>V.tup [(slr true 1 (slr true 1 Af)) r.1,V.bool r.2]) (by rfl) h (fun r h=>W1 h) (fun r22 h=> ?_)
    refine CutQ.o (fun t:(Unit ⊕ Unit)=>match t with | (.inl s)=>(Ex.normal,[16,12,9,8,4,3],[(16,A.val ((slr true 1 (slr true 1 Af)) (r22.fst))),(12,A.val (Af (r15.fst))),(9,A.val (V.bool (r9.snd))),(8,A.val ((slr false 1 Af) (r9.fst))),(4,A.val (V.bool (r4.fst))),(3,A.val ((rP true (Ai false)) (r3)))]) | (.inr s)=>(Ex.ret,[2],[(2,A.val (V.bool (false)))])) h ?_ ?_
    ·intro t h
     refine Cells.lit rfl rfl<|CallQ.o (fun r=>V.tup [(slr false 1 (slr false 1 Af)) r.1,V.bool r.2]) (by rfl) h (fun r h=>W8 h) (fun r23 h=> ?_)
     refine Br.flip<|Br.ob h (fun p24 h=> ?_) (fun p24 h=> ?_)
     ·refine Br.no<|Br.no<|Br.flip<|Br.ob h (fun p25 h=> ?_) (fun p25 h=> ?_)
      ·refine Br.no<|Br.no<|CallQ.rd V.bool (by first | rfl | simp only [V.fz,V.up,Ab,slr] | simp [Aa,V.fz,fzL,V.up,upL,Ab,Ac,Ad,slr]) (fun _=>rfl) h (fun r h=>Z6 h) (fun r26 h=> ?_)
       refine Br.no<|Br.no<|Br.flip<|Br.ob h (fun p27 h=> ?_) (fun p27 h=> ?_)
       ·refine Br.no<|Br.no<|Len.map<|Br.no<|Br.no<|Br.no<|Br.flip<|Br.ob h (fun p28 h=> ?_) (fun p28 h=> ?_)
        ·cases h;exact ⟨rfl,rfl⟩
        cases h;exact ⟨rfl,rfl⟩
       refine Br.yes<|Br.yes<|Br.yes<|Br.yes<|Br.yes<|Br.yes ?_
       cases h;exact ⟨rfl,rfl⟩
      refine Br.yes<|Br.yes<|Br.yes<|Br.yes<|Br.yes<|Br.yes<|Br.yes<|Br.yes<|Br.yes<|Br.yes<|Br.yes ?_
      cases h;exact ⟨rfl,rfl⟩
     refine Br.yes<|Br.yes<|Br.yes<|Br.yes<|Br.yes<|Br.yes<|Br.yes<|Br.yes<|Br.yes<|Br.yes<|Br.yes<|Br.yes<|Br.yes<|Br.yes ?_
     cases h;exact ⟨rfl,rfl⟩
    rintro (⟨⟩ | ⟨⟩) h
    ·try dsimp only at h
     refine Cells.lit rfl rfl<|CallQ.o (fun r=>V.tup [(slr true 1 (slr true 1 Af)) r.1,V.bool r.2]) (by rfl) h (fun r h=>Rs h) (fun r30 h=> ?_)
     refine CutQ.o (fun t:(Unit ⊕ Unit)=>match t with | (.inl s)=>(Ex.normal,[20,16,12,9,8,4,3],[(20,A.val ((slr true 1 (slr true 1 Af)) (r30.fst))),(16,A.val ((slr true 1 (slr true 1 Af)) (r22.fst))),(12,A.val (Af (r15.fst))),(9,A.val (V.bool (r9.snd))),(8,A.val ((slr false 1 Af) (r9.fst))),(4,A.val (V.bool (r4.fst))),(3,A.val ((rP true (Ai false)) (r3)))]) | (.inr s)=>(Ex.ret,[2],[(2,A.val (V.bool (false)))])) h ?_ ?_
     ·intro t h
      refine Cells.lit rfl rfl<|CallQ.o (fun r=>V.tup [(slr false 1 (slr false 1 Af)) r.1,V.bool r.2]) (by rfl) h (fun r h=>R8 h) (fun r31 h=> ?_)
      refine Br.flip<|Br.ob h (fun p32 h=> ?_) (fun p32 h=> ?_)
      ·refine Br.no<|Br.no<|Br.flip<|Br.ob h (fun p33 h=> ?_) (fun p33 h=> ?_)
       ·refine Br.no<|Br.no<|CallQ.rd V.bool (by first | rfl | simp only [V.fz,V.up,Ab,slr] | simp [Aa,V.fz,fzL,V.up,upL,Ab,Ac,Ad,slr]) (fun _=>rfl) h (fun r h=>Z6 h) (fun r34 h=> ?_)
        refine Br.no<|Br.no<|Br.flip<|Br.ob h (fun p35 h=> ?_) (fun p35 h=> ?_)
        ·cases h;exact ⟨rfl,rfl⟩
        cases h;exact ⟨rfl,rfl⟩
       refine Br.yes<|Br.yes<|Br.yes<|Br.yes<|Br.yes ?_
       cases h;exact ⟨rfl,rfl⟩
      refine Br.yes<|Br.yes<|Br.yes<|Br.yes<|Br.yes<|Br.yes<|Br.yes<|Br.yes ?_
      cases h;exact ⟨rfl,rfl⟩
     rintro (⟨⟩ | ⟨⟩) h
     ·try dsimp only at h
      refine Cells.lit rfl rfl<|CallQ.o (fun r=>V.tup [V.bool r.1,V.bool r.2]) (by rfl) h (fun r h=>Pw h) (fun r37 h=> ?_)
      refine CutQ.o (fun t:(Unit ⊕ Unit)=>match t with | (.inl s)=>(Ex.ret,[2],[(2,A.val (V.bool (false)))]) | (.inr s)=>(Ex.normal,[16,9,8,4,3],[(16,A.val ((slr true 1 (slr true 1 Af)) (r22.fst))),(9,A.val (V.bool (r9.snd))),(8,A.val ((slr false 1 Af) (r9.fst))),(4,A.val (V.bool (r4.fst))),(3,A.val ((rP true (Ai false)) (r3)))])) h ?_ ?_
      ·intro t h
       refine Br.flip<|Br.ob h (fun p38 h=> ?_) (fun p38 h=> ?_)
       ·refine Br.no<|Br.no<|Br.no<|Br.flip<|Br.ob h (fun p39 h=> ?_) (fun p39 h=> ?_)
        ·refine Br.no<|Br.no<|Len.map<|Br.no<|Br.no<|Br.no<|Br.flip<|Br.ob h (fun p40 h=> ?_) (fun p40 h=> ?_)
         ·refine Br.no<|Br.no<|Len.map<|Br.no<|Br.no<|Br.od h (fun p41 h=> ?_) (fun p41 h=> ?_)
          ·refine Br.yes<|Br.yes<|Br.yes<|Br.yes<|Br.yes<|Br.yes<|Br.yes<|Br.yes ?_
           cases h;exact ⟨rfl,rfl⟩
          refine Br.no<|Br.no<|Br.od h (fun p42 h=> ?_) (fun p42 h=> ?_)
          ·refine Br.yes<|Br.yes<|Br.yes<|Br.yes<|Br.yes ?_
           cases h;exact ⟨rfl,rfl⟩
          refine Br.no<|Br.no<|Len.map<|Br.no<|Br.no<|Br.od h (fun p43 h=> ?_) (fun p43 h=> ?_)
          ·cases h;exact ⟨rfl,rfl⟩
          cases h;exact ⟨rfl,rfl⟩
         refine Br.yes<|Br.yes<|Br.yes<|Br.yes<|Br.yes<|Br.yes<|Br.yes<|Br.yes<|Br.yes<|Br.yes<|Br.yes<|Br.yes<|Br.yes ?_
         cases h;exact ⟨rfl,rfl⟩
        refine Br.yes<|Br.yes<|Br.yes<|Br.yes<|Br.yes<|Br.yes<|Br.yes<|Br.yes<|Br.yes<|Br.yes<|Br.yes<|Br.yes<|Br.yes<|Br.yes<|Br.yes<|Br.yes<|Br.yes<|Br.yes<|Br.yes ?_
        cases h;exact ⟨rfl,rfl⟩
       refine Br.yes<|Br.yes<|Br.yes<|Br.yes<|Br.yes<|Br.yes<|Br.yes<|Br.yes<|Br.yes<|Br.yes<|Br.yes<|Br.yes<|Br.yes<|Br.yes<|Br.yes<|Br.yes<|Br.yes<|Br.yes<|Br.yes<|Br.yes<|Br.yes<|Br.yes<|Br.yes ?_
       cases h;exact ⟨rfl,rfl⟩
      rintro (⟨⟩ | ⟨⟩) h
      ·try dsimp only at h
       cases h;exact (by rfl)
      try dsimp only at h
      refine CutQ.o (fun t:(Unit ⊕ Unit)=>match t with | (.inl s)=>(Ex.normal,[16,9,8,3],[(16,A.val ((slr true 1 (slr true 1 Af)) (r22.fst))),(9,A.val (V.bool (r9.snd))),(8,A.val ((slr false 1 Af) (r9.fst))),(3,A.val ((rP true (Ai false)) (r3)))]) | (.inr s)=>(Ex.ret,[2],[(2,A.val (V.bool (false)))])) h ?_ ?_
      ·intro t h
       refine Br.ob h (fun p45 h=> ?_) (fun p45 h=> ?_)
       ·refine Br.yes<|Br.yes<|Br.flip<|Br.ob h (fun p46 h=> ?_) (fun p46 h=> ?_)
        ·refine Br.no<|Br.no<|Cells.lit rfl rfl<|Br.no<|Ask.o h fun p47 h=>MkQ.o Af ((0:Int)) rfl<|Br.no<|CallQ.rd V.bool (by first | rfl | simp only [V.fz,V.up,Ab,slr] | simp [Aa,V.fz,fzL,V.up,upL,Ab,Ac,Ad,slr]) (fun _=>rfl) h (fun r h=>Vl h) (fun r48 h=> ?_)
         refine Br.no<|Br.yes<|Br.no<|Br.yes<|Br.flip<|Br.ob h (fun p49 h=> ?_) (fun p49 h=> ?_)
         ·cases h;exact ⟨rfl,rfl⟩
         cases h;exact ⟨rfl,rfl⟩
        refine Br.yes<|Br.yes<|Br.yes<|Br.yes<|Br.yes<|Br.yes<|Br.yes<|Br.yes<|Br.yes ?_
        cases h;exact ⟨rfl,rfl⟩
       refine Br.no<|Br.no<|Br.no<|Br.no<|Br.no ?_
       cases h;exact ⟨rfl,rfl⟩
      rintro (⟨⟩ | ⟨⟩) h
      ·try dsimp only at h
       refine Br.ob h (fun p51 h=> ?_) (fun p51 h=> ?_)
       ·refine LoopQ.o [26,16,8,3] (K2 r3 r9 r22) (P9 r3 r9 r22) h (fun s o h=>Aag s o h) (by rfl) (by rintro (_ | _)<;>rfl) ?_
        rintro (⟨⟩ | ⟨⟩) h
        ·try dsimp only at h
         cases h;exact (by rfl)
        try dsimp only at h
        cases h;exact (by rfl)
       cases h;exact (by rfl)
      try dsimp only at h
      cases h;exact (by rfl)
     try dsimp only at h
     cases h;exact (by rfl)
    try dsimp only at h
    cases h;exact (by rfl)
   cases h;exact (by rfl)
  try dsimp only at h
  cases h;exact (by rfl)
 try dsimp only at h
 cases h;exact (by rfl)
end Go.Proofs.YtjcekpmojnnmbaaGreat.Ax
