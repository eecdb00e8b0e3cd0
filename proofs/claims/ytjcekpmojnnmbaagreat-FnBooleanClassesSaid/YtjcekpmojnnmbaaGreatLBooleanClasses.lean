/-
 What the functions compute, as functions on plain data, and that the program does compute it; written by program.
-/
import Derived.Test.YtjcekpmojnnmbaaGreatCode
import Derived.Test.YtjcekpmojnnmbaaGreatG1
import Derived.Test.YtjcekpmojnnmbaaGreatG8
import Derived.Test.YtjcekpmojnnmbaaGreatG9
import Derived.Test.YtjcekpmojnnmbaaGreatG10
namespace Go.Proofs.YtjcekpmojnnmbaaGreat.Ax
open Go
set_option maxRecDepth 100000
set_option maxHeartbeats 4000000
noncomputable def Bo (_r3:SNetwork) (r4:List Bool×Bool) (r10:Int×Bool):Int→Option (Int ⊕ (Unit ⊕ Unit)):=fun x12=>
 if x12<(↑r4.fst.length:Int) then
 ask ((0:Int)≤x12∧x12<(↑r4.fst.length:Int)) <|
 if (nth r4.fst x12.toNat)=true then
 if r10.fst>x12 then
 some (.inr (.inl ()))
 else
 if x12=r10.fst then
 ask ((0:Int)≤x12∧x12<(↑r4.fst.length:Int)) <|
 if (nth r4.fst x12.toNat)=true then
 ask (InI (x12+(1:Int))) <|
 some (.inl (x12+(1:Int)))
 else
 some (.inr (.inl ()))
 else
 ask (InI (x12+(1:Int))) <|
 some (.inl (x12+(1:Int)))
 else
 if x12=r10.fst then
 ask ((0:Int)≤x12∧x12<(↑r4.fst.length:Int)) <|
 if (nth r4.fst x12.toNat)=true then
 ask (InI (x12+(1:Int))) <|
 some (.inl (x12+(1:Int)))
 else
 some (.inr (.inl ()))
 else
 ask (InI (x12+(1:Int))) <|
 some (.inl (x12+(1:Int)))
 else
 some (.inr (.inr ()))
def Fi (r3:SNetwork) (r4:List Bool×Bool) (r10:Int×Bool):Int→St:=fun s=>[(12,A.val (Ae s)),(8,A.val (Ae (r10.fst))),(4,A.val ((slr true 1 V.bool) (r4.fst))),(3,A.val ((rP true (Aj false)) (r3)))]
def Iv (r3:SNetwork) (r4:List Bool×Bool) (_r10:Int×Bool):(Unit ⊕ Unit)→Tgt
 | (.inl _s)=>(Ex.ret,[2],[(2,A.val (V.bool (false)))])
 | (.inr _s)=>((Ex.exit 0),[4,3],[(4,A.val ((slr true 1 V.bool) (r4.fst))),(3,A.val ((rP true (Aj false)) (r3)))])
theorem Qw {r3:SNetwork} {r4:List Bool×Bool} {r10:Int×Bool} (x12:Int) (o:Int ⊕ (Unit ⊕ Unit)) (h:Bo r3 r4 r10 x12=some o):vc Tryz.prog Il (Dc [12,8,4,3] (Fi r3 r4 r10) (Iv r3 r4 r10) o) (Fi r3 r4 r10 x12):=by
 unfold Bo at h
 try dsimp only at h
 conv=>whnf
 refine Len.map ?_
 conv=>whnf
 refine Br.od h (fun p17 h=> ?_) (fun p17 h=> ?_)
 ·conv=>whnf
  refine Len.map ?_
  conv=>whnf
  refine Ask.o h fun p18 h=> ?_
  conv=>whnf
  refine Cells.one (fun _=>⟨rfl,rfl⟩) (by first | omega | (simp [Be] at * <;> omega)) ?_
  conv=>whnf
  refine Br.ob h (fun p19 h=> ?_) (fun p19 h=> ?_)
  ·conv=>whnf
   refine Br.yes ?_
   conv=>whnf
   refine Br.yes ?_
   conv=>whnf
   refine Br.yes ?_
   conv=>whnf
   refine Br.od h (fun p20 h=> ?_) (fun p20 h=> ?_)
   ·conv=>whnf
    refine Br.yes ?_
    conv=>whnf
    refine Br.yes ?_
    conv=>whnf
    refine Br.yes ?_
    conv=>whnf
    refine Br.yes ?_
    conv=>whnf
    refine Br.yes ?_
    conv=>whnf
    refine Br.yes ?_
    conv=>whnf
    cases h;exact ⟨rfl,rfl⟩
   conv=>whnf
   refine Br.no ?_
   conv=>whnf
   refine Br.no ?_
   conv=>whnf
   refine Br.no ?_
   conv=>whnf
   refine Br.oe h (fun p21 h=> ?_) (fun p21 h=> ?_)
   ·conv=>whnf
    refine Br.yes ?_
    conv=>whnf
    refine Br.yes ?_
    conv=>whnf
    refine Len.map ?_
    conv=>whnf
    refine Ask.o h fun p22 h=> ?_
    conv=>whnf
    refine Br.yes ?_
    conv=>whnf
    refine Cells.one (fun _=>⟨rfl,rfl⟩) (by first | omega | (simp [Be] at * <;> omega)) ?_
    conv=>whnf
    refine Br.yes ?_
    conv=>whnf
    refine Br.no ?_
    conv=>whnf
    refine Br.yes ?_
    conv=>whnf
    refine Br.no ?_
    conv=>whnf
    refine Br.flip ?_
    conv=>whnf
    refine Br.ob h (fun p23 h=> ?_) (fun p23 h=> ?_)
    ·conv=>whnf
     refine Ask.o h fun p24 h=> ?_
     conv=>whnf
     cases h;exact ⟨rfl,rfl⟩
    conv=>whnf
    cases h;exact ⟨rfl,rfl⟩
   conv=>whnf
   refine Br.no ?_
   conv=>whnf
   refine Br.no ?_
   conv=>whnf
   refine Br.no ?_
   conv=>whnf
   refine Br.no ?_
   conv=>whnf
   refine Br.no ?_
   conv=>whnf
   refine Br.no ?_
   conv=>whnf
   refine Br.no ?_
   conv=>whnf
   refine Br.no ?_
   conv=>whnf
   refine Ask.o h fun p25 h=> ?_
   conv=>whnf
   cases h;exact ⟨rfl,rfl⟩
  conv=>whnf
  refine Br.no ?_
  conv=>whnf
  refine Br.no ?_
  conv=>whnf
  refine Br.no ?_
  conv=>whnf
  refine Br.no ?_
  conv=>whnf
  refine Br.no ?_
  conv=>whnf
  refine Br.no ?_
  conv=>whnf
  refine Br.no ?_
  conv=>whnf
  refine Br.oe h (fun p26 h=> ?_) (fun p26 h=> ?_)
  ·conv=>whnf
   refine Br.yes ?_
   conv=>whnf
   refine Br.yes ?_
   conv=>whnf
   refine Len.map ?_
   conv=>whnf
   refine Ask.o h fun p27 h=> ?_
   conv=>whnf
   refine Br.yes ?_
   conv=>whnf
   refine Cells.one (fun _=>⟨rfl,rfl⟩) (by first | omega | (simp [Be] at * <;> omega)) ?_
   conv=>whnf
   refine Br.yes ?_
   conv=>whnf
   refine Br.no ?_
   conv=>whnf
   refine Br.yes ?_
   conv=>whnf
   refine Br.no ?_
   conv=>whnf
   refine Br.flip ?_
   conv=>whnf
   refine Br.ob h (fun p28 h=> ?_) (fun p28 h=> ?_)
   ·conv=>whnf
    refine Ask.o h fun p29 h=> ?_
    conv=>whnf
    cases h;exact ⟨rfl,rfl⟩
   conv=>whnf
   cases h;exact ⟨rfl,rfl⟩
  conv=>whnf
  refine Br.no ?_
  conv=>whnf
  refine Br.no ?_
  conv=>whnf
  refine Br.no ?_
  conv=>whnf
  refine Br.no ?_
  conv=>whnf
  refine Br.no ?_
  conv=>whnf
  refine Br.no ?_
  conv=>whnf
  refine Br.no ?_
  conv=>whnf
  refine Br.no ?_
  conv=>whnf
  refine Ask.o h fun p30 h=> ?_
  conv=>whnf
  cases h;exact ⟨rfl,rfl⟩
 conv=>whnf
 cases h;exact ⟨rfl,rfl⟩
noncomputable def Bp (r3:SNetwork) (_r4:List Bool×Bool):(Int×Bool)→Option ((Int×Bool) ⊕ Bool):=fun (x23,x22)=>
 if x23<(↑r3.Constraints.length:Int) then
 ask ((0:Int)≤x23∧x23<(↑r3.Constraints.length:Int)) <|
 (F3 ((2:Int)) ({ Arity:=(2:Int),Table:=[(0:Int),(0:Int),(0:Int),(1:Int)] }) ((nth r3.Constraints x23.toNat).Rel)).bind fun r65=>
 if (x22)=true then
 if (r65.snd)=true then
 ask (InI (x23+(1:Int))) <|
 some (.inl (x23+(1:Int),r65.fst))
 else
 ask (InI (x23+(1:Int))) <|
 some (.inl (x23+(1:Int),false))
 else
 ask (InI (x23+(1:Int))) <|
 some (.inl (x23+(1:Int),false))
 else
 some (.inr x22)
def Fo (r3:SNetwork) (r4:List Bool×Bool):(Int×Bool)→St:=fun s=>[(23,A.val (Ae s.1)),(22,A.val (V.bool s.2)),(21,A.val ((rP true (Co false)) ({ Arity:=(2:Int),Table:=[(0:Int),(0:Int),(0:Int),(1:Int)] }))),(4,A.val ((slr true 1 V.bool) (r4.fst))),(3,A.val ((rP true (Aj false)) (r3)))]
def I1 (_r3:SNetwork) (r4:List Bool×Bool):Bool→Tgt
 | s=>((Ex.exit 2),[22,4],[(22,A.val (V.bool s)),(4,A.val ((slr true 1 V.bool) (r4.fst)))])
theorem Qe {r3:SNetwork} {r4:List Bool×Bool} (s:(Int×Bool)) (o:(Int×Bool) ⊕ Bool) (h:Bp r3 r4 s=some o):vc Tryz.prog I6 (Dc [23,22,21,4,3] (Fo r3 r4) (I1 r3 r4) o) (Fo r3 r4 s):=by
 obtain ⟨x23,x22⟩:=s
 unfold Bp at h
 try dsimp only at h
 conv=>whnf
 refine Cells.lit rfl rfl ?_
 conv=>whnf
 refine Len.map ?_
 conv=>whnf
 refine Br.od h (fun p63 h=> ?_) (fun p63 h=> ?_)
 ·conv=>whnf
  refine Cells.lit rfl rfl ?_
  conv=>whnf
  refine Cells.lit rfl rfl ?_
  conv=>whnf
  refine Len.map ?_
  conv=>whnf
  refine Ask.o h fun p64 h=> ?_
  conv=>whnf
  refine Elem.o (by first | omega | (simp [Be] at * <;> omega)) ?_
  conv=>whnf
  refine CallP.o (fun r=>V.tup [V.bool r.1,V.bool r.2]) (by first | rfl | simp only [Aa,V.fz,fzL,V.up,upL,Ab,Ac,Ad,slr,List.cons_append,List.nil_append] | simp [Aa,V.fz,fzL,V.up,upL,Ab,Ac,Ad,slr]) h (fun r h=>Ag6 h) (fun r65 h=> ?_)
  conv=>whnf
  refine Br.ob h (fun p66 h=> ?_) (fun p66 h=> ?_)
  ·conv=>whnf
   refine Br.yes ?_
   conv=>whnf
   refine Br.ob h (fun p67 h=> ?_) (fun p67 h=> ?_)
   ·conv=>whnf
    refine Br.yes ?_
    conv=>whnf
    refine Ask.o h fun p68 h=> ?_
    conv=>whnf
    cases h;exact ⟨rfl,rfl⟩
   conv=>whnf
   refine Br.no ?_
   conv=>whnf
   refine Ask.o h fun p69 h=> ?_
   conv=>whnf
   cases h;exact ⟨rfl,rfl⟩
  conv=>whnf
  refine Br.no ?_
  conv=>whnf
  refine Br.no ?_
  conv=>whnf
  refine Br.no ?_
  conv=>whnf
  refine Ask.o h fun p70 h=> ?_
  conv=>whnf
  cases h;exact ⟨rfl,rfl⟩
 conv=>whnf
 cases h;exact ⟨rfl,rfl⟩
noncomputable def Es (code0:(List Int)):Option Bool:=
 (Ry (code0)).bind fun r1=>
 if (r1)=true then
 some true
 else
 (Cw (code0)).bind fun r3=>
 (Cm (r3)).bind fun r4=>
 (((D7 (r3)).bind fun r5=>
 if (r4.snd==r5.snd)=true then
 (Ht (r4.fst) (r5.fst)).bind fun r7=>
 if (r7)=true then
 some (.inl ())
 else
 some (.inr ())
 else
 some (.inr ()):Option (Unit ⊕ Unit))).bind fun t=>match t with
 | (.inl _)=>((Ga (r3)).bind fun r10=>
 (((Gd (r3)).bind fun r11=>
 if r10.fst≠r11.fst then
 some (.inl ())
 else
 if (r10.snd==r11.snd)=true then
 if (r10.snd==r4.snd)=true then
 some (.inr ())
 else
 some (.inl ())
 else
 some (.inl ()):Option (Unit ⊕ Unit))).bind fun t=>match t with
 | (.inl _)=>(some false)
 | (.inr _)=>(if (r4.snd)=true then
 (Ao (Bo r3 r4 r10) (0:Int)).bind fun t=>match t with
 | (.inl _)=>(some false)
 | (.inr _)=>((Eg (r3)).bind fun r32=>
 (Cm (r32.fst)).bind fun r33=>
 (Eg (r32.fst)).bind fun r34=>
 (Cm (r34.fst)).bind fun r35=>
 ((if (r32.snd)=true then
 if (r33.snd)=true then
 if (r34.snd)=true then
 if (r35.snd)=true then
 if (↑r33.fst.length:Int)≠(6:Int) then
 some (.inl ())
 else
 (Ht (r35.fst) (r4.fst)).bind fun r41=>
 if (r41)=true then
 some (.inr ())
 else
 some (.inl ())
 else
 some (.inl ())
 else
 some (.inl ())
 else
 some (.inl ())
 else
 some (.inl ()):Option (Unit ⊕ Unit))).bind fun t=>match t with
 | (.inl _)=>(some false)
 | (.inr _)=>(((ask ((0:Int)≤(0:Int)∧(0:Int)<(↑r33.fst.length:Int)) <|
 ask ((0:Int)≤(1:Int)∧(1:Int)<(↑r4.fst.length:Int)) <|
 if (nth r33.fst (Int.toNat (0:Int))==nth r4.fst (Int.toNat (1:Int)))=true then
 ask ((0:Int)≤(1:Int)∧(1:Int)<(↑r33.fst.length:Int)) <|
 ask ((0:Int)≤(0:Int)∧(0:Int)<(↑r4.fst.length:Int)) <|
 if (nth r33.fst (Int.toNat (1:Int))==nth r4.fst (Int.toNat (0:Int)))=true then
 ask ((0:Int)≤(2:Int)∧(2:Int)<(↑r33.fst.length:Int)) <|
 ask ((0:Int)≤(3:Int)∧(3:Int)<(↑r4.fst.length:Int)) <|
 if (nth r33.fst (Int.toNat (2:Int))==nth r4.fst (Int.toNat (3:Int)))=true then
 ask ((0:Int)≤(3:Int)∧(3:Int)<(↑r33.fst.length:Int)) <|
 ask ((0:Int)≤(2:Int)∧(2:Int)<(↑r4.fst.length:Int)) <|
 if (nth r33.fst (Int.toNat (3:Int))==nth r4.fst (Int.toNat (2:Int)))=true then
 ask ((0:Int)≤(4:Int)∧(4:Int)<(↑r33.fst.length:Int)) <|
 ask ((0:Int)≤(4:Int)∧(4:Int)<(↑r4.fst.length:Int)) <|
 if (nth r33.fst (Int.toNat (4:Int))==nth r4.fst (Int.toNat (4:Int)))=true then
 ask ((0:Int)≤(5:Int)∧(5:Int)<(↑r33.fst.length:Int)) <|
 ask ((0:Int)≤(5:Int)∧(5:Int)<(↑r4.fst.length:Int)) <|
 if (nth r33.fst (Int.toNat (5:Int))==nth r4.fst (Int.toNat (5:Int)))=true then
 some (.inl ())
 else
 some (.inr ())
 else
 some (.inr ())
 else
 some (.inr ())
 else
 some (.inr ())
 else
 some (.inr ())
 else
 some (.inr ()):Option (Unit ⊕ Unit))).bind fun t=>match t with
 | (.inl _)=>((Ao (Bp r3 r4) ((0:Int),true)).bind fun q71_22=>
 ask ((0:Int)≤(2:Int)∧(2:Int)<(↑r4.fst.length:Int)) <|
 some (q71_22==nth r4.fst (Int.toNat (2:Int))))
 | (.inr _)=>(some false)))
 else
 some true))
 | (.inr _)=>(some false)
theorem Uk {code0:(List Int)} {v:Bool} (h:Es code0=some v):Ret Tryz.prog La [(slr false 1 (V.int IntKind.u8)) code0] (V.bool v):=by
 refine A5 Tu (Nat.le_of_ble_eq_true rfl) ?_
 unfold Es at h
 conv=>whnf
 refine CallQ.o V.bool (by first | rfl | simp only [Aa,V.fz,fzL,V.up,upL,Ab,Ac,Ad,slr,List.cons_append,List.nil_append] | simp [Aa,V.fz,fzL,V.up,upL,Ab,Ac,Ad,slr]) h (fun r h=>Aq9 h) (fun r1 h=> ?_)
 conv=>whnf
 refine Br.ob h (fun p2 h=> ?_) (fun p2 h=> ?_)
 ·conv=>whnf
  cases h;exact (by first | rfl | simp only [Ah,Aa,V.fz,fzL,V.up,upL,Ab,Ac,Ad,slr] | simp [Ah,Aa,V.fz,fzL,V.up,upL,Ab,Ac,Ad,slr])
 conv=>whnf
 refine CallQ.o (Aj false) (by first | rfl | simp only [Aa,V.fz,fzL,V.up,upL,Ab,Ac,Ad,slr,List.cons_append,List.nil_append] | simp [Aa,V.fz,fzL,V.up,upL,Ab,Ac,Ad,slr]) h (fun r h=>Ret.frz (Q9 h) (by first | rfl | simp only [Aa,V.fz,fzL,V.up,upL,Ab,Ac,Ad,slr,List.cons_append,List.nil_append] | simp [Aa,V.fz,fzL,V.up,upL,Ab,Ac,Ad,slr])) (fun r3 h=> ?_)
 conv=>whnf
 refine SetKids.lit rfl ?_
 conv=>whnf
 refine Cells.lit rfl rfl ?_
 conv=>whnf
 refine CallQ.o (fun r=>V.tup [(slr true 1 V.bool) r.1,V.bool r.2]) (by first | rfl | simp only [Aa,V.fz,fzL,V.up,upL,Ab,Ac,Ad,slr,List.cons_append,List.nil_append] | simp [Aa,V.fz,fzL,V.up,upL,Ab,Ac,Ad,slr]) h (fun r h=>H5 h) (fun r4 h=> ?_)
 conv=>whnf
 refine CutQ.o (fun t:(Unit ⊕ Unit)=>match t with | (.inl s)=>(Ex.normal,[5,4,3],[(5,A.val (V.bool (r4.snd))),(4,A.val ((slr true 1 V.bool) (r4.fst))),(3,A.val ((rP true (Aj false)) (r3)))]) | (.inr s)=>(Ex.ret,[2],[(2,A.val (V.bool (false)))])) h ?_ ?_
 ·intro t h
  conv=>whnf
  refine Cells.lit rfl rfl ?_
  conv=>whnf
  refine CallQ.o (fun r=>V.tup [(slr true 1 V.bool) r.1,V.bool r.2]) (by first | rfl | simp only [Aa,V.fz,fzL,V.up,upL,Ab,Ac,Ad,slr,List.cons_append,List.nil_append] | simp [Aa,V.fz,fzL,V.up,upL,Ab,Ac,Ad,slr]) h (fun r h=>Wz h) (fun r5 h=> ?_)
  conv=>whnf
  refine Br.flip ?_
  conv=>whnf
  refine Br.ob h (fun p6 h=> ?_) (fun p6 h=> ?_)
  ·conv=>whnf
   refine Br.no ?_
   conv=>whnf
   refine Br.no ?_
   conv=>whnf
   refine CallQ.rd V.bool (by first | rfl | simp only [V.fz,Ab,slr] | simp [Aa,V.fz,fzL,V.up,upL,Ab,Ac,Ad,slr]) (fun _=>rfl) h (fun r h=>Aac h) (fun r7 h=> ?_)
   conv=>whnf
   refine Br.no ?_
   conv=>whnf
   refine Br.no ?_
   conv=>whnf
   refine Br.flip ?_
   conv=>whnf
   refine Br.ob h (fun p8 h=> ?_) (fun p8 h=> ?_)
   ·conv=>whnf
    cases h;exact ⟨rfl,rfl⟩
   conv=>whnf
   cases h;exact ⟨rfl,rfl⟩
  conv=>whnf
  refine Br.yes ?_
  conv=>whnf
  refine Br.yes ?_
  conv=>whnf
  refine Br.yes ?_
  conv=>whnf
  refine Br.yes ?_
  conv=>whnf
  refine Br.yes ?_
  conv=>whnf
  cases h;exact ⟨rfl,rfl⟩
 rintro (⟨⟩ | ⟨⟩) h
 ·try dsimp only at h
  conv=>whnf
  refine Cells.lit rfl rfl ?_
  conv=>whnf
  refine CallQ.o (fun r=>V.tup [Ae r.1,V.bool r.2]) (by first | rfl | simp only [Aa,V.fz,fzL,V.up,upL,Ab,Ac,Ad,slr,List.cons_append,List.nil_append] | simp [Aa,V.fz,fzL,V.up,upL,Ab,Ac,Ad,slr]) h (fun r h=>Acl h) (fun r10 h=> ?_)
  conv=>whnf
  refine CutQ.o (fun t:(Unit ⊕ Unit)=>match t with | (.inl s)=>(Ex.ret,[2],[(2,A.val (V.bool (false)))]) | (.inr s)=>(Ex.normal,[8,5,4,3],[(8,A.val (Ae (r10.fst))),(5,A.val (V.bool (r4.snd))),(4,A.val ((slr true 1 V.bool) (r4.fst))),(3,A.val ((rP true (Aj false)) (r3)))])) h ?_ ?_
  ·intro t h
   conv=>whnf
   refine Cells.lit rfl rfl ?_
   conv=>whnf
   refine CallQ.o (fun r=>V.tup [Ae r.1,V.bool r.2]) (by first | rfl | simp only [Aa,V.fz,fzL,V.up,upL,Ab,Ac,Ad,slr,List.cons_append,List.nil_append] | simp [Aa,V.fz,fzL,V.up,upL,Ab,Ac,Ad,slr]) h (fun r h=>Adp h) (fun r11 h=> ?_)
   conv=>whnf
   refine Br.on h (fun p12 h=> ?_) (fun p12 h=> ?_)
   ·conv=>whnf
    refine Br.yes ?_
    conv=>whnf
    refine Br.yes ?_
    conv=>whnf
    refine Br.yes ?_
    conv=>whnf
    refine Br.yes ?_
    conv=>whnf
    refine Br.yes ?_
    conv=>whnf
    refine Br.yes ?_
    conv=>whnf
    refine Br.yes ?_
    conv=>whnf
    refine Br.yes ?_
    conv=>whnf
    cases h;exact ⟨rfl,rfl⟩
   conv=>whnf
   refine Br.no ?_
   conv=>whnf
   refine Br.no ?_
   conv=>whnf
   refine Br.no ?_
   conv=>whnf
   refine Br.flip ?_
   conv=>whnf
   refine Br.ob h (fun p13 h=> ?_) (fun p13 h=> ?_)
   ·conv=>whnf
    refine Br.no ?_
    conv=>whnf
    refine Br.no ?_
    conv=>whnf
    refine Br.no ?_
    conv=>whnf
    refine Br.flip ?_
    conv=>whnf
    refine Br.ob h (fun p14 h=> ?_) (fun p14 h=> ?_)
    ·conv=>whnf
     cases h;exact ⟨rfl,rfl⟩
    conv=>whnf
    cases h;exact ⟨rfl,rfl⟩
   conv=>whnf
   refine Br.yes ?_
   conv=>whnf
   refine Br.yes ?_
   conv=>whnf
   refine Br.yes ?_
   conv=>whnf
   refine Br.yes ?_
   conv=>whnf
   cases h;exact ⟨rfl,rfl⟩
  rintro (⟨⟩ | ⟨⟩) h
  ·try dsimp only at h
   conv=>whnf
   cases h;exact (by first | rfl | simp only [Ah,Aa,V.fz,fzL,V.up,upL,Ab,Ac,Ad,slr] | simp [Ah,Aa,V.fz,fzL,V.up,upL,Ab,Ac,Ad,slr])
  try dsimp only at h
  conv=>whnf
  refine Br.flip ?_
  conv=>whnf
  refine Br.ob h (fun p16 h=> ?_) (fun p16 h=> ?_)
  ·conv=>whnf
   refine LoopQ.o [12,8,4,3] (Fi r3 r4 r10) (Iv r3 r4 r10) h (fun s o h=>Qw s o h) (by first | rfl | simp [restrict,look,Aa,V.fz,fzL,V.up,upL,Ab,Ac,Ad,slr]) (by rintro (_ | _)<;>rfl) ?_
   rintro (⟨⟩ | ⟨⟩) h
   ·try dsimp only at h
    conv=>whnf
    cases h;exact (by first | rfl | simp only [Ah,Aa,V.fz,fzL,V.up,upL,Ab,Ac,Ad,slr] | simp [Ah,Aa,V.fz,fzL,V.up,upL,Ab,Ac,Ad,slr])
   try dsimp only at h
   conv=>whnf
   refine Cells.lit rfl rfl ?_
   conv=>whnf
   refine CallQ.o (fun r=>V.tup [(Aj false) r.1,V.bool r.2]) (by first | rfl | simp only [Aa,V.fz,fzL,V.up,upL,Ab,Ac,Ad,slr,List.cons_append,List.nil_append] | simp [Aa,V.fz,fzL,V.up,upL,Ab,Ac,Ad,slr]) h (fun r h=>Qf h) (fun r32 h=> ?_)
   conv=>whnf
   refine SetKids.lit rfl ?_
   conv=>whnf
   refine Cells.lit rfl rfl ?_
   conv=>whnf
   refine CallQ.o (fun r=>V.tup [(slr true 1 V.bool) r.1,V.bool r.2]) (by first | rfl | simp only [Aa,V.fz,fzL,V.up,upL,Ab,Ac,Ad,slr,List.cons_append,List.nil_append] | simp [Aa,V.fz,fzL,V.up,upL,Ab,Ac,Ad,slr]) h (fun r h=>H5 h) (fun r33 h=> ?_)
   conv=>whnf
   refine Cells.lit rfl rfl ?_
   conv=>whnf
   refine CallQ.o (fun r=>V.tup [(Aj false) r.1,V.bool r.2]) (by first | rfl | simp only [Aa,V.fz,fzL,V.up,upL,Ab,Ac,Ad,slr,List.cons_append,List.nil_append] | simp [Aa,V.fz,fzL,V.up,upL,Ab,Ac,Ad,slr]) h (fun r h=>Qf h) (fun r34 h=> ?_)
   conv=>whnf
   refine SetKids.lit rfl ?_
   conv=>whnf
   refine Cells.lit rfl rfl ?_
   conv=>whnf
   refine CallQ.o (fun r=>V.tup [(slr true 1 V.bool) r.1,V.bool r.2]) (by first | rfl | simp only [Aa,V.fz,fzL,V.up,upL,Ab,Ac,Ad,slr,List.cons_append,List.nil_append] | simp [Aa,V.fz,fzL,V.up,upL,Ab,Ac,Ad,slr]) h (fun r h=>H5 h) (fun r35 h=> ?_)
   conv=>whnf
   refine CutQ.o (fun t:(Unit ⊕ Unit)=>match t with | (.inl s)=>(Ex.ret,[2],[(2,A.val (V.bool (false)))]) | (.inr s)=>(Ex.normal,[15,4,3],[(15,A.val ((slr true 1 V.bool) (r33.fst))),(4,A.val ((slr true 1 V.bool) (r4.fst))),(3,A.val ((rP true (Aj false)) (r3)))])) h ?_ ?_
   ·intro t h
    conv=>whnf
    refine Br.flip ?_
    conv=>whnf
    refine Br.ob h (fun p36 h=> ?_) (fun p36 h=> ?_)
    ·conv=>whnf
     refine Br.no ?_
     conv=>whnf
     refine Br.no ?_
     conv=>whnf
     refine Br.flip ?_
     conv=>whnf
     refine Br.ob h (fun p37 h=> ?_) (fun p37 h=> ?_)
     ·conv=>whnf
      refine Br.no ?_
      conv=>whnf
      refine Br.no ?_
      conv=>whnf
      refine Br.flip ?_
      conv=>whnf
      refine Br.ob h (fun p38 h=> ?_) (fun p38 h=> ?_)
      ·conv=>whnf
       refine Br.no ?_
       conv=>whnf
       refine Br.no ?_
       conv=>whnf
       refine Br.flip ?_
       conv=>whnf
       refine Br.ob h (fun p39 h=> ?_) (fun p39 h=> ?_)
       ·conv=>whnf
        refine Br.no ?_
        conv=>whnf
        refine Len.map ?_
        conv=>whnf
        refine Br.no ?_
        conv=>whnf
        refine Br.no ?_
        conv=>whnf
        refine Br.on h (fun p40 h=> ?_) (fun p40 h=> ?_)
        ·conv=>whnf
         refine Br.yes ?_
         conv=>whnf
         refine Br.yes ?_
         conv=>whnf
         refine Br.yes ?_
         conv=>whnf
         refine Br.yes ?_
         conv=>whnf
         refine Br.yes ?_
         conv=>whnf
         cases h;exact ⟨rfl,rfl⟩
        conv=>whnf
        refine Br.no ?_
        conv=>whnf
        refine Br.no ?_
        conv=>whnf
        refine CallQ.rd V.bool (by first | rfl | simp only [V.fz,Ab,slr] | simp [Aa,V.fz,fzL,V.up,upL,Ab,Ac,Ad,slr]) (fun _=>rfl) h (fun r h=>Aac h) (fun r41 h=> ?_)
        conv=>whnf
        refine Br.no ?_
        conv=>whnf
        refine Br.no ?_
        conv=>whnf
        refine Br.flip ?_
        conv=>whnf
        refine Br.ob h (fun p42 h=> ?_) (fun p42 h=> ?_)
        ·conv=>whnf
         cases h;exact ⟨rfl,rfl⟩
        conv=>whnf
        cases h;exact ⟨rfl,rfl⟩
       conv=>whnf
       refine Br.yes ?_
       conv=>whnf
       refine Br.yes ?_
       conv=>whnf
       refine Br.yes ?_
       conv=>whnf
       refine Br.yes ?_
       conv=>whnf
       refine Br.yes ?_
       conv=>whnf
       refine Br.yes ?_
       conv=>whnf
       refine Br.yes ?_
       conv=>whnf
       refine Br.yes ?_
       conv=>whnf
       refine Br.yes ?_
       conv=>whnf
       cases h;exact ⟨rfl,rfl⟩
      conv=>whnf
      refine Br.yes ?_
      conv=>whnf
      refine Br.yes ?_
      conv=>whnf
      refine Br.yes ?_
      conv=>whnf
      refine Br.yes ?_
      conv=>whnf
      refine Br.yes ?_
      conv=>whnf
      refine Br.yes ?_
      conv=>whnf
      refine Br.yes ?_
      conv=>whnf
      refine Br.yes ?_
      conv=>whnf
      refine Br.yes ?_
      conv=>whnf
      refine Br.yes ?_
      conv=>whnf
      refine Br.yes ?_
      conv=>whnf
      refine Br.yes ?_
      conv=>whnf
      cases h;exact ⟨rfl,rfl⟩
     conv=>whnf
     refine Br.yes ?_
     conv=>whnf
     refine Br.yes ?_
     conv=>whnf
     refine Br.yes ?_
     conv=>whnf
     refine Br.yes ?_
     conv=>whnf
     refine Br.yes ?_
     conv=>whnf
     refine Br.yes ?_
     conv=>whnf
     refine Br.yes ?_
     conv=>whnf
     refine Br.yes ?_
     conv=>whnf
     refine Br.yes ?_
     conv=>whnf
     refine Br.yes ?_
     conv=>whnf
     refine Br.yes ?_
     conv=>whnf
     refine Br.yes ?_
     conv=>whnf
     refine Br.yes ?_
     conv=>whnf
     refine Br.yes ?_
     conv=>whnf
     refine Br.yes ?_
     conv=>whnf
     cases h;exact ⟨rfl,rfl⟩
    conv=>whnf
    refine Br.yes ?_
    conv=>whnf
    refine Br.yes ?_
    conv=>whnf
    refine Br.yes ?_
    conv=>whnf
    refine Br.yes ?_
    conv=>whnf
    refine Br.yes ?_
    conv=>whnf
    refine Br.yes ?_
    conv=>whnf
    refine Br.yes ?_
    conv=>whnf
    refine Br.yes ?_
    conv=>whnf
    refine Br.yes ?_
    conv=>whnf
    refine Br.yes ?_
    conv=>whnf
    refine Br.yes ?_
    conv=>whnf
    refine Br.yes ?_
    conv=>whnf
    refine Br.yes ?_
    conv=>whnf
    refine Br.yes ?_
    conv=>whnf
    refine Br.yes ?_
    conv=>whnf
    refine Br.yes ?_
    conv=>whnf
    refine Br.yes ?_
    conv=>whnf
    refine Br.yes ?_
    conv=>whnf
    cases h;exact ⟨rfl,rfl⟩
   rintro (⟨⟩ | ⟨⟩) h
   ·try dsimp only at h
    conv=>whnf
    cases h;exact (by first | rfl | simp only [Ah,Aa,V.fz,fzL,V.up,upL,Ab,Ac,Ad,slr] | simp [Ah,Aa,V.fz,fzL,V.up,upL,Ab,Ac,Ad,slr])
   try dsimp only at h
   conv=>whnf
   refine CutQ.o (fun t:(Unit ⊕ Unit)=>match t with | (.inl s)=>(Ex.normal,[4,3],[(4,A.val ((slr true 1 V.bool) (r4.fst))),(3,A.val ((rP true (Aj false)) (r3)))]) | (.inr s)=>(Ex.ret,[2],[(2,A.val (V.bool (false)))])) h ?_ ?_
   ·intro t h
    conv=>whnf
    refine Len.map ?_
    conv=>whnf
    refine Ask.o h fun p44 h=> ?_
    conv=>whnf
    refine Cells.one (fun _=>⟨rfl,rfl⟩) (by first | omega | (simp [Be] at * <;> omega)) ?_
    conv=>whnf
    refine Len.map ?_
    conv=>whnf
    refine Ask.o h fun p45 h=> ?_
    conv=>whnf
    refine Cells.one (fun _=>⟨rfl,rfl⟩) (by first | omega | (simp [Be] at * <;> omega)) ?_
    conv=>whnf
    refine Br.flip ?_
    conv=>whnf
    refine Br.ob h (fun p46 h=> ?_) (fun p46 h=> ?_)
    ·conv=>whnf
     refine Br.no ?_
     conv=>whnf
     refine Len.map ?_
     conv=>whnf
     refine Ask.o h fun p47 h=> ?_
     conv=>whnf
     refine Br.no ?_
     conv=>whnf
     refine Cells.one (fun _=>⟨rfl,rfl⟩) (by first | omega | (simp [Be] at * <;> omega)) ?_
     conv=>whnf
     refine Br.no ?_
     conv=>whnf
     refine Br.no ?_
     conv=>whnf
     refine Len.map ?_
     conv=>whnf
     refine Ask.o h fun p48 h=> ?_
     conv=>whnf
     refine Br.no ?_
     conv=>whnf
     refine Cells.one (fun _=>⟨rfl,rfl⟩) (by first | omega | (simp [Be] at * <;> omega)) ?_
     conv=>whnf
     refine Br.no ?_
     conv=>whnf
     refine Br.no ?_
     conv=>whnf
     refine Br.flip ?_
     conv=>whnf
     refine Br.ob h (fun p49 h=> ?_) (fun p49 h=> ?_)
     ·conv=>whnf
      refine Br.no ?_
      conv=>whnf
      refine Len.map ?_
      conv=>whnf
      refine Ask.o h fun p50 h=> ?_
      conv=>whnf
      refine Br.no ?_
      conv=>whnf
      refine Cells.one (fun _=>⟨rfl,rfl⟩) (by first | omega | (simp [Be] at * <;> omega)) ?_
      conv=>whnf
      refine Br.no ?_
      conv=>whnf
      refine Br.no ?_
      conv=>whnf
      refine Len.map ?_
      conv=>whnf
      refine Ask.o h fun p51 h=> ?_
      conv=>whnf
      refine Br.no ?_
      conv=>whnf
      refine Cells.one (fun _=>⟨rfl,rfl⟩) (by first | omega | (simp [Be] at * <;> omega)) ?_
      conv=>whnf
      refine Br.no ?_
      conv=>whnf
      refine Br.no ?_
      conv=>whnf
      refine Br.flip ?_
      conv=>whnf
      refine Br.ob h (fun p52 h=> ?_) (fun p52 h=> ?_)
      ·conv=>whnf
       refine Br.no ?_
       conv=>whnf
       refine Len.map ?_
       conv=>whnf
       refine Ask.o h fun p53 h=> ?_
       conv=>whnf
       refine Br.no ?_
       conv=>whnf
       refine Cells.one (fun _=>⟨rfl,rfl⟩) (by first | omega | (simp [Be] at * <;> omega)) ?_
       conv=>whnf
       refine Br.no ?_
       conv=>whnf
       refine Br.no ?_
       conv=>whnf
       refine Len.map ?_
       conv=>whnf
       refine Ask.o h fun p54 h=> ?_
       conv=>whnf
       refine Br.no ?_
       conv=>whnf
       refine Cells.one (fun _=>⟨rfl,rfl⟩) (by first | omega | (simp [Be] at * <;> omega)) ?_
       conv=>whnf
       refine Br.no ?_
       conv=>whnf
       refine Br.no ?_
       conv=>whnf
       refine Br.flip ?_
       conv=>whnf
       refine Br.ob h (fun p55 h=> ?_) (fun p55 h=> ?_)
       ·conv=>whnf
        refine Br.no ?_
        conv=>whnf
        refine Len.map ?_
        conv=>whnf
        refine Ask.o h fun p56 h=> ?_
        conv=>whnf
        refine Br.no ?_
        conv=>whnf
        refine Cells.one (fun _=>⟨rfl,rfl⟩) (by first | omega | (simp [Be] at * <;> omega)) ?_
        conv=>whnf
        refine Br.no ?_
        conv=>whnf
        refine Br.no ?_
        conv=>whnf
        refine Len.map ?_
        conv=>whnf
        refine Ask.o h fun p57 h=> ?_
        conv=>whnf
        refine Br.no ?_
        conv=>whnf
        refine Cells.one (fun _=>⟨rfl,rfl⟩) (by first | omega | (simp [Be] at * <;> omega)) ?_
        conv=>whnf
        refine Br.no ?_
        conv=>whnf
        refine Br.no ?_
        conv=>whnf
        refine Br.flip ?_
        conv=>whnf
        refine Br.ob h (fun p58 h=> ?_) (fun p58 h=> ?_)
        ·conv=>whnf
         refine Br.no ?_
         conv=>whnf
         refine Len.map ?_
         conv=>whnf
         refine Ask.o h fun p59 h=> ?_
         conv=>whnf
         refine Br.no ?_
         conv=>whnf
         refine Cells.one (fun _=>⟨rfl,rfl⟩) (by first | omega | (simp [Be] at * <;> omega)) ?_
         conv=>whnf
         refine Br.no ?_
         conv=>whnf
         refine Br.no ?_
         conv=>whnf
         refine Len.map ?_
         conv=>whnf
         refine Ask.o h fun p60 h=> ?_
         conv=>whnf
         refine Br.no ?_
         conv=>whnf
         refine Cells.one (fun _=>⟨rfl,rfl⟩) (by first | omega | (simp [Be] at * <;> omega)) ?_
         conv=>whnf
         refine Br.no ?_
         conv=>whnf
         refine Br.no ?_
         conv=>whnf
         refine Br.flip ?_
         conv=>whnf
         refine Br.ob h (fun p61 h=> ?_) (fun p61 h=> ?_)
         ·conv=>whnf
          cases h;exact ⟨rfl,rfl⟩
         conv=>whnf
         cases h;exact ⟨rfl,rfl⟩
        conv=>whnf
        refine Br.yes ?_
        conv=>whnf
        refine Br.yes ?_
        conv=>whnf
        refine Br.yes ?_
        conv=>whnf
        refine Br.yes ?_
        conv=>whnf
        refine Br.yes ?_
        conv=>whnf
        refine Br.yes ?_
        conv=>whnf
        refine Br.yes ?_
        conv=>whnf
        refine Br.yes ?_
        conv=>whnf
        cases h;exact ⟨rfl,rfl⟩
       conv=>whnf
       refine Br.yes ?_
       conv=>whnf
       refine Br.yes ?_
       conv=>whnf
       refine Br.yes ?_
       conv=>whnf
       refine Br.yes ?_
       conv=>whnf
       refine Br.yes ?_
       conv=>whnf
       refine Br.yes ?_
       conv=>whnf
       refine Br.yes ?_
       conv=>whnf
       refine Br.yes ?_
       conv=>whnf
       refine Br.yes ?_
       conv=>whnf
       refine Br.yes ?_
       conv=>whnf
       refine Br.yes ?_
       conv=>whnf
       refine Br.yes ?_
       conv=>whnf
       refine Br.yes ?_
       conv=>whnf
       refine Br.yes ?_
       conv=>whnf
       refine Br.yes ?_
       conv=>whnf
       refine Br.yes ?_
       conv=>whnf
       cases h;exact ⟨rfl,rfl⟩
      conv=>whnf
      refine Br.yes ?_
      conv=>whnf
      refine Br.yes ?_
      conv=>whnf
      refine Br.yes ?_
      conv=>whnf
      refine Br.yes ?_
      conv=>whnf
      refine Br.yes ?_
      conv=>whnf
      refine Br.yes ?_
      conv=>whnf
      refine Br.yes ?_
      conv=>whnf
      refine Br.yes ?_
      conv=>whnf
      refine Br.yes ?_
      conv=>whnf
      refine Br.yes ?_
      conv=>whnf
      refine Br.yes ?_
      conv=>whnf
      refine Br.yes ?_
      conv=>whnf
      refine Br.yes ?_
      conv=>whnf
      refine Br.yes ?_
      conv=>whnf
      refine Br.yes ?_
      conv=>whnf
      refine Br.yes ?_
      conv=>whnf
      refine Br.yes ?_
      conv=>whnf
      refine Br.yes ?_
      conv=>whnf
      refine Br.yes ?_
      conv=>whnf
      refine Br.yes ?_
      conv=>whnf
      refine Br.yes ?_
      conv=>whnf
      refine Br.yes ?_
      conv=>whnf
      refine Br.yes ?_
      conv=>whnf
      refine Br.yes ?_
      conv=>whnf
      cases h;exact ⟨rfl,rfl⟩
     conv=>whnf
     refine Br.yes ?_
     conv=>whnf
     refine Br.yes ?_
     conv=>whnf
     refine Br.yes ?_
     conv=>whnf
     refine Br.yes ?_
     conv=>whnf
     refine Br.yes ?_
     conv=>whnf
     refine Br.yes ?_
     conv=>whnf
     refine Br.yes ?_
     conv=>whnf
     refine Br.yes ?_
     conv=>whnf
     refine Br.yes ?_
     conv=>whnf
     refine Br.yes ?_
     conv=>whnf
     refine Br.yes ?_
     conv=>whnf
     refine Br.yes ?_
     conv=>whnf
     refine Br.yes ?_
     conv=>whnf
     refine Br.yes ?_
     conv=>whnf
     refine Br.yes ?_
     conv=>whnf
     refine Br.yes ?_
     conv=>whnf
     refine Br.yes ?_
     conv=>whnf
     refine Br.yes ?_
     conv=>whnf
     refine Br.yes ?_
     conv=>whnf
     refine Br.yes ?_
     conv=>whnf
     refine Br.yes ?_
     conv=>whnf
     refine Br.yes ?_
     conv=>whnf
     refine Br.yes ?_
     conv=>whnf
     refine Br.yes ?_
     conv=>whnf
     refine Br.yes ?_
     conv=>whnf
     refine Br.yes ?_
     conv=>whnf
     refine Br.yes ?_
     conv=>whnf
     refine Br.yes ?_
     conv=>whnf
     refine Br.yes ?_
     conv=>whnf
     refine Br.yes ?_
     conv=>whnf
     refine Br.yes ?_
     conv=>whnf
     refine Br.yes ?_
     conv=>whnf
     cases h;exact ⟨rfl,rfl⟩
    conv=>whnf
    refine Br.yes ?_
    conv=>whnf
    refine Br.yes ?_
    conv=>whnf
    refine Br.yes ?_
    conv=>whnf
    refine Br.yes ?_
    conv=>whnf
    refine Br.yes ?_
    conv=>whnf
    refine Br.yes ?_
    conv=>whnf
    refine Br.yes ?_
    conv=>whnf
    refine Br.yes ?_
    conv=>whnf
    refine Br.yes ?_
    conv=>whnf
    refine Br.yes ?_
    conv=>whnf
    refine Br.yes ?_
    conv=>whnf
    refine Br.yes ?_
    conv=>whnf
    refine Br.yes ?_
    conv=>whnf
    refine Br.yes ?_
    conv=>whnf
    refine Br.yes ?_
    conv=>whnf
    refine Br.yes ?_
    conv=>whnf
    refine Br.yes ?_
    conv=>whnf
    refine Br.yes ?_
    conv=>whnf
    refine Br.yes ?_
    conv=>whnf
    refine Br.yes ?_
    conv=>whnf
    refine Br.yes ?_
    conv=>whnf
    refine Br.yes ?_
    conv=>whnf
    refine Br.yes ?_
    conv=>whnf
    refine Br.yes ?_
    conv=>whnf
    refine Br.yes ?_
    conv=>whnf
    refine Br.yes ?_
    conv=>whnf
    refine Br.yes ?_
    conv=>whnf
    refine Br.yes ?_
    conv=>whnf
    refine Br.yes ?_
    conv=>whnf
    refine Br.yes ?_
    conv=>whnf
    refine Br.yes ?_
    conv=>whnf
    refine Br.yes ?_
    conv=>whnf
    refine Br.yes ?_
    conv=>whnf
    refine Br.yes ?_
    conv=>whnf
    refine Br.yes ?_
    conv=>whnf
    refine Br.yes ?_
    conv=>whnf
    refine Br.yes ?_
    conv=>whnf
    refine Br.yes ?_
    conv=>whnf
    refine Br.yes ?_
    conv=>whnf
    refine Br.yes ?_
    conv=>whnf
    cases h;exact ⟨rfl,rfl⟩
   rintro (⟨⟩ | ⟨⟩) h
   ·try dsimp only at h
    conv=>whnf
    refine BslQ.o Ae ([(0:Int),(0:Int),(0:Int),(1:Int)]) (by exact fun _=>⟨rfl,rfl⟩) (by first | rfl | (simp only [Aa,V.fz,fzL,V.up,upL,Ab,Ac,Ad,slr,List.cons_append,List.nil_append];done) | simp [Aa,V.fz,fzL,V.up,upL,Ab,Ac,Ad,slr]) ?_
    conv=>whnf
    refine FrzQ.d (V.sl false (1:Nat) (List.map Ae [(0:Int),(0:Int),(0:Int),(1:Int)])) (by first | (simp only [Am,Ac];done) | (simp [Am,V.fz,Ab,Ac,slr];done) | (simp [Am,V.fz,fzL,Ab,slr];done)) ?_
    conv=>whnf
    refine SetKids.lit rfl ?_
    conv=>whnf
    refine LoopQ.o [23,22,21,4,3] (Fo r3 r4) (I1 r3 r4) h (fun s o h=>Qe s o h) (by first | rfl | simp [restrict,look,Aa,V.fz,fzL,V.up,upL,Ab,Ac,Ad,slr]) (fun _=>rfl) ?_
    rintro q71_22 h
    try dsimp only at h
    conv=>whnf
    refine Len.map ?_
    conv=>whnf
    refine Ask.o h fun p72 h=> ?_
    conv=>whnf
    refine Cells.one (fun _=>⟨rfl,rfl⟩) (by first | omega | (simp [Be] at * <;> omega)) ?_
    conv=>whnf
    cases h;exact (by first | rfl | simp only [Ah,Aa,V.fz,fzL,V.up,upL,Ab,Ac,Ad,slr] | simp [Ah,Aa,V.fz,fzL,V.up,upL,Ab,Ac,Ad,slr])
   try dsimp only at h
   conv=>whnf
   cases h;exact (by first | rfl | simp only [Ah,Aa,V.fz,fzL,V.up,upL,Ab,Ac,Ad,slr] | simp [Ah,Aa,V.fz,fzL,V.up,upL,Ab,Ac,Ad,slr])
  conv=>whnf
  cases h;exact (by first | rfl | simp only [Ah,Aa,V.fz,fzL,V.up,upL,Ab,Ac,Ad,slr] | simp [Ah,Aa,V.fz,fzL,V.up,upL,Ab,Ac,Ad,slr])
 try dsimp only at h
 conv=>whnf
 cases h;exact (by first | rfl | simp only [Ah,Aa,V.fz,fzL,V.up,upL,Ab,Ac,Ad,slr] | simp [Ah,Aa,V.fz,fzL,V.up,upL,Ab,Ac,Ad,slr])
end Go.Proofs.YtjcekpmojnnmbaaGreat.Ax
