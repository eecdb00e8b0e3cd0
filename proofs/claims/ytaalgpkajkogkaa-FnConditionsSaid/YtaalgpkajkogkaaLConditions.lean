/-
 What the functions compute, as functions on plain data, and that the program does compute it; written by program.
-/
import Derived.Test.YtaalgpkajkogkaaCode
import Derived.Test.YtaalgpkajkogkaaG1
import Derived.Test.YtaalgpkajkogkaaG3
import Derived.Test.YtaalgpkajkogkaaG18
import Derived.Test.YtaalgpkajkogkaaG19
import Derived.Test.YtaalgpkajkogkaaG20
import Derived.Test.YtaalgpkajkogkaaG21
import Derived.Test.YtaalgpkajkogkaaG22
import Derived.Test.YtaalgpkajkogkaaG23
namespace Go.Proofs.Ytaalgpkajkogkaa.Ax
open Go
set_option maxRecDepth 100000
set_option maxHeartbeats 4000000
noncomputable def It (code0:(List Int)):Option Bool:=
 (W1 (code0)).bind λr1=>
 if (r1)=true then
 some true
 else
 (G3 (code0)).bind λr3=>
 (Gx (r3.fst) (r3.snd)).bind λr4=>
 (((Ko (r3.fst) (r3.snd)).bind λr5=>
 if r4.snd.fst≠r5.snd.fst then
 some (.inl ())
 else
 if (r4.snd.snd==r5.snd.snd)=true then
 (M7 (r4.fst) (r5.fst)).bind λr8=>
 if (r8)=true then
 some (.inr ())
 else
 some (.inl ())
 else
 some (.inl ()):Option (Unit ⊕ Unit))).bind λt=>match t with
 | (.inl _)=>(some false)
 | (.inr _)=>((G7 (r3.fst) (r3.snd)).bind λr11=>
 (((G6 (r3.fst) (r3.snd)).bind λr12=>
 if (r11.snd==r12.snd)=true then
 if (r4.snd.snd)=true then
 if (r11.snd==(r4.snd.fst==(2:Int)))=true then
 (Kr (r11.fst) (r12.fst)).bind λr16=>
 if (r16)=true then
 some (.inl ())
 else
 some (.inr ())
 else
 some (.inr ())
 else
 if (r11.snd==false)=true then
 (Kr (r11.fst) (r12.fst)).bind λr19=>
 if (r19)=true then
 some (.inl ())
 else
 some (.inr ())
 else
 some (.inr ())
 else
 some (.inr ()):Option (Unit ⊕ Unit))).bind λt=>match t with
 | (.inl _)=>(((((if (r4.snd.snd)=true then
 some (r4.snd.fst==(1:Int))
 else
 some false:Option Bool)).bind λq23_108=>
 if (q23_108)=true then
 (Fw (r3.fst) (r3.snd) (r4.fst)).bind λr25=>
 if (r25.snd)=true then
 if (r25.fst)=true then
 some (.inl ())
 else
 some (.inr ())
 else
 some (.inr ())
 else
 some (.inl ()):Option (Unit ⊕ Unit))).bind λt=>match t with
 | (.inl _)=>(((if (r11.snd)=true then
 (Dk (r3.fst) (r3.snd) (r11.fst)).bind λr30=>
 if (r30.snd)=true then
 if (r30.fst)=true then
 some (.inl ())
 else
 some (.inr ())
 else
 some (.inr ())
 else
 some (.inl ()):Option (Unit ⊕ Unit))).bind λt=>match t with
 | (.inl _)=>((G4 (code0)).bind λr34=>
 (Fw (r34.fst) (r34.snd.fst) (r34.snd.snd)).bind λr35=>
 (((G1 (r34.fst) (r34.snd.fst) (r34.snd.snd)).bind λr36=>
 if (r35.fst==r36.fst)=true then
 if (r35.snd==r36.snd)=true then
 some (.inl ())
 else
 some (.inr ())
 else
 some (.inr ()):Option (Unit ⊕ Unit))).bind λt=>match t with
 | (.inl _)=>(((((if (r35.snd)=true then
 some r35.fst
 else
 some false:Option Bool)).bind λq41_167=>
 if (q41_167)=true then
 (Gx (r34.fst) (r34.snd.fst)).bind λr43=>
 if (r43.snd.snd)=true then
 if r43.snd.fst=(2:Int) then
 some (.inl ())
 else
 some (.inr ())
 else
 some (.inl ())
 else
 some (.inr ()):Option (Unit ⊕ Unit))).bind λt=>match t with
 | (.inl _)=>(some false)
 | (.inr _)=>((E3 (code0)).bind λr47=>
 (Dk (r47.fst) (r47.snd.fst) (r47.snd.snd)).bind λr48=>
 (((Eg (r47.fst) (r47.snd.fst) (r47.snd.snd)).bind λr49=>
 if (r48.fst==r49.fst)=true then
 if (r48.snd==r49.snd)=true then
 some (.inl ())
 else
 some (.inr ())
 else
 some (.inr ()):Option (Unit ⊕ Unit))).bind λt=>match t with
 | (.inl _)=>(((if (r48.snd)=true then
 some r48.fst
 else
 some false:Option Bool)).bind λq54_212=>
 if (q54_212)=true then
 (Gx (r47.fst) (r47.snd.fst)).bind λr56=>
 if (r56.snd.snd)=true then
 if r56.snd.fst=(1:Int) then
 some false
 else
 some true
 else
 some false
 else
 some true)
 | (.inr _)=>(some false)))
 | (.inr _)=>(some false))
 | (.inr _)=>(some false))
 | (.inr _)=>(some false))
 | (.inr _)=>(some false))
theorem Ae0 {code0} {v} (h:It code0=some v):Ret Try.prog Tw [(slr false 1 (V.int IntKind.u8)) code0] (V.bool v):=by
 refine Bn Aei (Nat.le_of_ble_eq_true rfl) ?_;unfold It at h;refine CallQ.o V.bool (by rfl) h (λr h=>Avf h) (λr1 h=> ?_);refine Br.ob h (λp2 h=> ?_) (λp2 h=> ?_)
 ·cases h;exact (by rfl)
 refine CallQ.o (λr=>V.tup [(Aj false) r.1,(Ah false) r.2]) (by rfl) h (λr h=>Ret.frz (Aet h) (by first | rfl | simp only [V.fz,fzL,Ab] | simp [Aa,V.fz,fzL,V.up,upL,Ab,Ac,Ad,slr])) (λr3 h=> ?_);refine SetKids.lit rfl<|SetKids.lit rfl<|Cells.lit rfl rfl<|Cells.lit rfl rfl<|CallQ.o (λr=>V.tup [(slr false 2 (Af false)) r.1,Ae r.2.1,V.bool r.2.2]) (by rfl) h (λr h=>Th h) (λr4 h=> ?_)
 refine CutQ.o (λt:(Unit ⊕ Unit)=>match t with | (.inl s)=>(Ex.ret,[2],[(2,A.val (V.bool (false)))]) | (.inr s)=>(Ex.normal,[7,6,5,4,3,0],[(7,A.val (V.bool (r4.snd.snd))),(6,A.val (Ae (r4.snd.fst))),(5,A.val ((slr false 2 (Af false)) (r4.fst))),(4,A.val ((rP true (Ah false)) (r3.snd))),(3,A.val ((rP true (Aj false)) (r3.fst))),(0,A.val ((slr false 1 (V.int IntKind.u8)) (code0)))])) h ?_ ?_
 ·intro t h;refine Cells.lit rfl rfl<|Cells.lit rfl rfl<|CallQ.o (λr=>V.tup [(slr true 2 (Af true)) r.1,Ae r.2.1,V.bool r.2.2]) (by rfl) h (λr h=>Al7 h) (λr5 h=> ?_)
  refine Br.on h (λp6 h=> ?_) (λp6 h=> ?_)
  ·refine Br.yes<|Br.yes<|Br.yes<|Br.yes<|Br.yes<|Br.yes<|Br.yes<|Br.yes<|Br.yes ?_
   cases h;exact ⟨rfl,rfl⟩
  refine Br.no<|Br.no<|Br.no<|Br.flip<|Br.ob h (λp7 h=> ?_) (λp7 h=> ?_)
  ·refine Br.no<|Br.no<|CallQ.rd V.bool (by first | rfl | simp only [V.fz,V.up,Ab,slr] | simp [Aa,V.fz,fzL,V.up,upL,Ab,Ac,Ad,slr]) (λ_=>rfl) h (λr h=>Aqs h) (λr8 h=> ?_)
   refine Br.no<|Br.no<|Br.flip<|Br.ob h (λp9 h=> ?_) (λp9 h=> ?_)
   ·cases h;exact ⟨rfl,rfl⟩
   cases h;exact ⟨rfl,rfl⟩
  refine Br.yes<|Br.yes<|Br.yes<|Br.yes<|Br.yes ?_
  cases h;exact ⟨rfl,rfl⟩
 rintro (⟨⟩ | ⟨⟩) h
 ·try dsimp only at h
  cases h;exact (by rfl)
 try dsimp only at h
 refine Cells.lit rfl rfl<|Cells.lit rfl rfl<|CallQ.o (λr=>V.tup [(slr false 1 (slr false 1 Ae)) r.1,V.bool r.2]) (by rfl) h (λr h=>Ad2 h) (λr11 h=> ?_)
 refine CutQ.o (λt:(Unit ⊕ Unit)=>match t with | (.inl s)=>(Ex.normal,[12,11,7,6,5,4,3,0],[(12,A.val (V.bool (r11.snd))),(11,A.val ((slr false 1 (slr false 1 Ae)) (r11.fst))),(7,A.val (V.bool (r4.snd.snd))),(6,A.val (Ae (r4.snd.fst))),(5,A.val ((slr false 2 (Af false)) (r4.fst))),(4,A.val ((rP true (Ah false)) (r3.snd))),(3,A.val ((rP true (Aj false)) (r3.fst))),(0,A.val ((slr false 1 (V.int IntKind.u8)) (code0)))]) | (.inr s)=>(Ex.ret,[2],[(2,A.val (V.bool (false)))])) h ?_ ?_
 ·intro t h;refine Cells.lit rfl rfl<|Cells.lit rfl rfl<|CallQ.o (λr=>V.tup [(slr true 1 (slr true 1 Ae)) r.1,V.bool r.2]) (by rfl) h (λr h=>Aem h) (λr12 h=> ?_)
  refine Br.flip<|Br.ob h (λp13 h=> ?_) (λp13 h=> ?_)
  ·refine Br.no<|Br.no<|Br.ob h (λp14 h=> ?_) (λp14 h=> ?_)
   ·refine Br.yes<|Br.no<|Br.yes<|Br.no<|Br.no<|Br.flip<|Br.ob h (λp15 h=> ?_) (λp15 h=> ?_)
    ·refine Br.no<|Br.no<|CallQ.rd V.bool (by first | rfl | simp only [V.fz,V.up,Ab,slr] | simp [Aa,V.fz,fzL,V.up,upL,Ab,Ac,Ad,slr]) (λ_=>rfl) h (λr h=>Afa h) (λr16 h=> ?_)
     refine Br.no<|Br.no<|Br.flip<|Br.ob h (λp17 h=> ?_) (λp17 h=> ?_)
     ·cases h;exact ⟨rfl,rfl⟩
     cases h;exact ⟨rfl,rfl⟩
    refine Br.yes<|Br.yes<|Br.yes<|Br.yes<|Br.yes ?_
    cases h;exact ⟨rfl,rfl⟩
   refine Br.no<|Br.no<|Br.no<|Br.no<|Br.no<|Br.flip<|Br.ob h (λp18 h=> ?_) (λp18 h=> ?_)
   ·refine Br.no<|Br.no<|CallQ.rd V.bool (by first | rfl | simp only [V.fz,V.up,Ab,slr] | simp [Aa,V.fz,fzL,V.up,upL,Ab,Ac,Ad,slr]) (λ_=>rfl) h (λr h=>Afa h) (λr19 h=> ?_)
    refine Br.no<|Br.no<|Br.flip<|Br.ob h (λp20 h=> ?_) (λp20 h=> ?_)
    ·cases h;exact ⟨rfl,rfl⟩
    cases h;exact ⟨rfl,rfl⟩
   refine Br.yes<|Br.yes<|Br.yes<|Br.yes<|Br.yes ?_
   cases h;exact ⟨rfl,rfl⟩
  refine Br.yes<|Br.yes<|Br.yes<|Br.yes<|Br.yes<|Br.yes<|Br.yes<|Br.yes<|Br.yes<|Br.yes<|Br.yes ?_
  cases h;exact ⟨rfl,rfl⟩
 rintro (⟨⟩ | ⟨⟩) h
 ·try dsimp only at h
  refine CutQ.o (λt:(Unit ⊕ Unit)=>match t with | (.inl s)=>(Ex.normal,[12,11,4,3,0],[(12,A.val (V.bool (r11.snd))),(11,A.val ((slr false 1 (slr false 1 Ae)) (r11.fst))),(4,A.val ((rP true (Ah false)) (r3.snd))),(3,A.val ((rP true (Aj false)) (r3.fst))),(0,A.val ((slr false 1 (V.int IntKind.u8)) (code0)))]) | (.inr s)=>(Ex.ret,[2],[(2,A.val (V.bool (false)))])) h ?_ ?_
  ·intro t h;refine CutQ.o (λt:Bool=>match t with | s=>(Ex.normal,[108,12,11,5,4,3,0],[(108,A.val (V.bool s)),(12,A.val (V.bool (r11.snd))),(11,A.val ((slr false 1 (slr false 1 Ae)) (r11.fst))),(5,A.val ((slr false 2 (Af false)) (r4.fst))),(4,A.val ((rP true (Ah false)) (r3.snd))),(3,A.val ((rP true (Aj false)) (r3.fst))),(0,A.val ((slr false 1 (V.int IntKind.u8)) (code0)))])) h ?_ ?_
   ·intro t h;refine Br.ob h (λp22 h=> ?_) (λp22 h=> ?_)
    ·refine Br.yes<|Br.yes ?_
     cases h;exact ⟨rfl,rfl⟩
    refine Br.no<|Br.no ?_
    cases h;exact ⟨rfl,rfl⟩
   rintro q23_108 h;try dsimp only at h
   refine Br.ob h (λp24 h=> ?_) (λp24 h=> ?_)
   ·refine Cells.lit rfl rfl<|Cells.lit rfl rfl<|CallQ.o (λr=>V.tup [V.bool r.1,V.bool r.2]) (by rfl) h (λr h=>Aaz h) (λr25 h=> ?_)
    refine Br.flip<|Br.ob h (λp26 h=> ?_) (λp26 h=> ?_)
    ·refine Br.no<|Br.no<|Br.flip<|Br.ob h (λp27 h=> ?_) (λp27 h=> ?_)
     ·cases h;exact ⟨rfl,rfl⟩
     cases h;exact ⟨rfl,rfl⟩
    refine Br.yes<|Br.yes<|Br.yes ?_
    cases h;exact ⟨rfl,rfl⟩
   cases h;exact ⟨rfl,rfl⟩
  rintro (⟨⟩ | ⟨⟩) h
  ·try dsimp only at h
   refine CutQ.o (λt:(Unit ⊕ Unit)=>match t with | (.inl s)=>(Ex.normal,[0],[(0,A.val ((slr false 1 (V.int IntKind.u8)) (code0)))]) | (.inr s)=>(Ex.ret,[2],[(2,A.val (V.bool (false)))])) h ?_ ?_
   ·intro t h;refine Br.ob h (λp29 h=> ?_) (λp29 h=> ?_)
    ·refine Cells.lit rfl rfl<|Cells.lit rfl rfl<|CallQ.o (λr=>V.tup [V.bool r.1,V.bool r.2]) (by rfl) h (λr h=>Tt h) (λr30 h=> ?_)
     refine Br.flip<|Br.ob h (λp31 h=> ?_) (λp31 h=> ?_)
     ·refine Br.no<|Br.no<|Br.flip<|Br.ob h (λp32 h=> ?_) (λp32 h=> ?_)
      ·cases h;exact ⟨rfl,rfl⟩
      cases h;exact ⟨rfl,rfl⟩
     refine Br.yes<|Br.yes<|Br.yes ?_
     cases h;exact ⟨rfl,rfl⟩
    cases h;exact ⟨rfl,rfl⟩
   rintro (⟨⟩ | ⟨⟩) h
   ·try dsimp only at h
    refine CallQ.o (λr=>V.tup [(Aj false) r.1,(Ah false) r.2.1,(slr false 2 (Af false)) r.2.2]) (by rfl) h (λr h=>Aeo h) (λr34 h=> ?_);refine SetKids.lit rfl<|SetKids.lit rfl<|Cells.lit rfl rfl<|Cells.lit rfl rfl<|CallQ.o (λr=>V.tup [V.bool r.1,V.bool r.2]) (by rfl) h (λr h=>Aaz h) (λr35 h=> ?_)
    refine CutQ.o (λt:(Unit ⊕ Unit)=>match t with | (.inl s)=>(Ex.normal,[23,22,20,19,0],[(23,A.val (V.bool (r35.snd))),(22,A.val (V.bool (r35.fst))),(20,A.val ((rP true (Ah false)) (r34.snd.fst))),(19,A.val ((rP true (Aj false)) (r34.fst))),(0,A.val ((slr false 1 (V.int IntKind.u8)) (code0)))]) | (.inr s)=>(Ex.ret,[2],[(2,A.val (V.bool (false)))])) h ?_ ?_
    ·intro t h;refine Cells.lit rfl rfl<|Cells.lit rfl rfl<|CallQ.o (λr=>V.tup [V.bool r.1,V.bool r.2]) (by rfl) h (λr h=>Ama h) (λr36 h=> ?_)
     refine Br.flip<|Br.ob h (λp37 h=> ?_) (λp37 h=> ?_)
     ·refine Br.no<|Br.no<|Br.no<|Br.flip<|Br.ob h (λp38 h=> ?_) (λp38 h=> ?_)
      ·cases h;exact ⟨rfl,rfl⟩
      cases h;exact ⟨rfl,rfl⟩
     refine Br.yes<|Br.yes<|Br.yes<|Br.yes ?_
     cases h;exact ⟨rfl,rfl⟩
    rintro (⟨⟩ | ⟨⟩) h
    ·try dsimp only at h
     refine CutQ.o (λt:(Unit ⊕ Unit)=>match t with | (.inl s)=>(Ex.ret,[2],[(2,A.val (V.bool (false)))]) | (.inr s)=>(Ex.normal,[0],[(0,A.val ((slr false 1 (V.int IntKind.u8)) (code0)))])) h ?_ ?_
     ·intro t h;refine CutQ.o (λt:Bool=>match t with | s=>(Ex.normal,[167,20,19,0],[(167,A.val (V.bool s)),(20,A.val ((rP true (Ah false)) (r34.snd.fst))),(19,A.val ((rP true (Aj false)) (r34.fst))),(0,A.val ((slr false 1 (V.int IntKind.u8)) (code0)))])) h ?_ ?_
      ·intro t h;refine Br.ob h (λp40 h=> ?_) (λp40 h=> ?_)
       ·refine Br.yes ?_;cases h;exact ⟨rfl,rfl⟩
       refine Br.no ?_;cases h;exact ⟨rfl,rfl⟩
      rintro q41_167 h;try dsimp only at h
      refine Br.ob h (λp42 h=> ?_) (λp42 h=> ?_)
      ·refine Cells.lit rfl rfl<|Cells.lit rfl rfl<|CallQ.o (λr=>V.tup [(slr false 2 (Af false)) r.1,Ae r.2.1,V.bool r.2.2]) (by rfl) h (λr h=>Th h) (λr43 h=> ?_)
       refine Br.flip<|Br.ob h (λp44 h=> ?_) (λp44 h=> ?_)
       ·refine Br.no<|Br.no<|Br.oe h (λp45 h=> ?_) (λp45 h=> ?_)
        ·cases h;exact ⟨rfl,rfl⟩
        cases h;exact ⟨rfl,rfl⟩
       refine Br.yes<|Br.yes<|Br.yes ?_
       cases h;exact ⟨rfl,rfl⟩
      cases h;exact ⟨rfl,rfl⟩
     rintro (⟨⟩ | ⟨⟩) h
     ·try dsimp only at h
      cases h;exact (by rfl)
     try dsimp only at h
     refine CallQ.o (λr=>V.tup [(Aj false) r.1,(Ah false) r.2.1,(slr false 1 (slr false 1 Ae)) r.2.2]) (by rfl) h (λr h=>Yx h) (λr47 h=> ?_);refine SetKids.lit rfl<|SetKids.lit rfl<|Cells.lit rfl rfl<|Cells.lit rfl rfl<|CallQ.o (λr=>V.tup [V.bool r.1,V.bool r.2]) (by rfl) h (λr h=>Tt h) (λr48 h=> ?_)
     refine CutQ.o (λt:(Unit ⊕ Unit)=>match t with | (.inl s)=>(Ex.normal,[33,32,30,29],[(33,A.val (V.bool (r48.snd))),(32,A.val (V.bool (r48.fst))),(30,A.val ((rP true (Ah false)) (r47.snd.fst))),(29,A.val ((rP true (Aj false)) (r47.fst)))]) | (.inr s)=>(Ex.ret,[2],[(2,A.val (V.bool (false)))])) h ?_ ?_
     ·intro t h;refine Cells.lit rfl rfl<|Cells.lit rfl rfl<|CallQ.o (λr=>V.tup [V.bool r.1,V.bool r.2]) (by rfl) h (λr h=>Ad4 h) (λr49 h=> ?_)
      refine Br.flip<|Br.ob h (λp50 h=> ?_) (λp50 h=> ?_)
      ·refine Br.no<|Br.no<|Br.no<|Br.flip<|Br.ob h (λp51 h=> ?_) (λp51 h=> ?_)
       ·cases h;exact ⟨rfl,rfl⟩
       cases h;exact ⟨rfl,rfl⟩
      refine Br.yes<|Br.yes<|Br.yes<|Br.yes ?_
      cases h;exact ⟨rfl,rfl⟩
     rintro (⟨⟩ | ⟨⟩) h
     ·try dsimp only at h
      refine CutQ.o (λt:Bool=>match t with | s=>(Ex.normal,[212,30,29],[(212,A.val (V.bool s)),(30,A.val ((rP true (Ah false)) (r47.snd.fst))),(29,A.val ((rP true (Aj false)) (r47.fst)))])) h ?_ ?_
      ·intro t h;refine Br.ob h (λp53 h=> ?_) (λp53 h=> ?_)
       ·refine Br.yes ?_;cases h;exact ⟨rfl,rfl⟩
       refine Br.no ?_;cases h;exact ⟨rfl,rfl⟩
      rintro q54_212 h;try dsimp only at h
      refine Br.ob h (λp55 h=> ?_) (λp55 h=> ?_)
      ·refine Cells.lit rfl rfl<|Cells.lit rfl rfl<|CallQ.o (λr=>V.tup [(slr false 2 (Af false)) r.1,Ae r.2.1,V.bool r.2.2]) (by rfl) h (λr h=>Th h) (λr56 h=> ?_)
       refine Br.flip<|Br.ob h (λp57 h=> ?_) (λp57 h=> ?_)
       ·refine Br.no<|Br.no<|Br.oe h (λp58 h=> ?_) (λp58 h=> ?_)
        ·cases h;exact (by rfl)
        cases h;exact (by rfl)
       refine Br.yes<|Br.yes<|Br.yes ?_
       cases h;exact (by rfl)
      cases h;exact (by rfl)
     try dsimp only at h
     cases h;exact (by rfl)
    try dsimp only at h
    cases h;exact (by rfl)
   try dsimp only at h
   cases h;exact (by rfl)
  try dsimp only at h
  cases h;exact (by rfl)
 try dsimp only at h
 cases h;exact (by rfl)
end Go.Proofs.Ytaalgpkajkogkaa.Ax
