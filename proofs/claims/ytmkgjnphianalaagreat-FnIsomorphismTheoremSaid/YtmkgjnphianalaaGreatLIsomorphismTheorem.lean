/-
 What the functions compute, as functions on plain data, and that the program does compute it; written by program.
-/
import Derived.Test.YtmkgjnphianalaaGreatCode
import Derived.Test.YtmkgjnphianalaaGreatG1
import Derived.Test.YtmkgjnphianalaaGreatG9
import Derived.Test.YtmkgjnphianalaaGreatG12
import Derived.Test.YtmkgjnphianalaaGreatG13
import Derived.Test.YtmkgjnphianalaaGreatG14
namespace Go.Proofs.YtmkgjnphianalaaGreat.Ax
open Go
set_option maxRecDepth 100000
set_option maxHeartbeats 4000000
noncomputable def Eg (code0:(List Int)):Option Bool:=
 (Xq (code0)).bind λr1=>
 if (r1)=true then
 some true
 else
 (Cp (code0)).bind λr3=>
 (Cr (r3.fst) (r3.snd.fst) (r3.snd.snd)).bind λr4=>
 (((Dt (r3.fst) (r3.snd.fst) (r3.snd.snd)).bind λr5=>
 if (r4.snd==r5.snd)=true then
 (Gg (r4.fst) (r5.fst)).bind λr7=>
 if (r7)=true then
 some (.inl ())
 else
 some (.inr ())
 else
 some (.inr ()):Option (Unit ⊕ Unit))).bind λt=>match t with
 | (.inl _)=>((G3 (r3.fst) (r3.snd.fst) (r3.snd.snd)).bind λr10=>
 (((Gw (r3.fst) (r3.snd.fst) (r3.snd.snd)).bind λr11=>
 if (r10.snd==r11.snd)=true then
 (Gg (r10.fst) (r11.fst)).bind λr13=>
 if (r13)=true then
 some (.inl ())
 else
 some (.inr ())
 else
 some (.inr ()):Option (Unit ⊕ Unit))).bind λt=>match t with
 | (.inl _)=>((Hi (r3.fst) (r3.snd.fst) (r3.snd.snd)).bind λr16=>
 (((Jh (r3.fst) (r3.snd.fst) (r3.snd.snd)).bind λr17=>
 if (r16.snd==r17.snd)=true then
 if (r16.snd==r10.snd)=true then
 (Gg (r16.fst) (r17.fst)).bind λr20=>
 if (r20)=true then
 some (.inl ())
 else
 some (.inr ())
 else
 some (.inr ())
 else
 some (.inr ()):Option (Unit ⊕ Unit))).bind λt=>match t with
 | (.inl _)=>(if (r4.snd)=true then
 (C2 (r3.fst) (r3.snd.fst)).bind λr24=>
 (B4 (r24.fst) (r4.fst)).bind λr25=>
 (B4 (r3.fst) (r3.snd.snd)).bind λr26=>
 (C2 (r26.fst) (r16.fst)).bind λr27=>
 (Fs (r25.fst) (r27.fst)).bind λr28=>
 ((if (r10.snd)=true then
 if (r16.snd)=true then
 if (r24.snd)=true then
 if (r25.snd)=true then
 if (r26.snd)=true then
 if (r27.snd)=true then
 if (r28.snd)=true then
 if (r28.fst)=true then
 some (.inl ())
 else
 some (.inr ())
 else
 some (.inl ())
 else
 some (.inr ())
 else
 some (.inr ())
 else
 some (.inr ())
 else
 some (.inr ())
 else
 some (.inr ())
 else
 some (.inr ()):Option (Unit ⊕ Unit))).bind λt=>match t with
 | (.inl _)=>((C2 (r3.fst) (r10.fst)).bind λr38=>
 (Cr (r3.fst) (r10.fst) (r3.snd.snd)).bind λr39=>
 (B4 (r38.fst) (r39.fst)).bind λr40=>
 (Hi (r3.fst) (r10.fst) (r3.snd.snd)).bind λr41=>
 if (r38.snd)=true then
 if (r39.snd)=true then
 if (r40.snd)=true then
 if (r41.snd)=true then
 (Gg (r41.fst) (r16.fst)).bind λr46=>
 if (r46)=true then
 (Ju (r40.fst) (r27.fst)).bind λr48=>
 some r48
 else
 some false
 else
 some false
 else
 some false
 else
 some false
 else
 some false)
 | (.inr _)=>(some false)
 else
 some true)
 | (.inr _)=>(some false))
 | (.inr _)=>(some false))
 | (.inr _)=>(some false)
theorem Uh {code0:(List Int)} {v:Bool} (h:Eg code0=some v):Ret Tryz.prog Kn [(slr false 1 (V.int IntKind.u8)) code0] (V.bool v):=by
 refine A4 Uf (Nat.le_of_ble_eq_true rfl) ?_;unfold Eg at h;refine CallQ.o V.bool (by rfl) h (λr h=>A1l h) (λr1 h=> ?_);refine Br.ob h (λp2 h=> ?_) (λp2 h=> ?_)
 ·cases h;exact (by rfl)
 refine CallQ.o (λr=>V.tup [(Ag false) r.1,(slr false 1 Af) r.2.1,(slr false 1 Af) r.2.2]) (by rfl) h (λr h=>S0 h) (λr3 h=> ?_);refine SetKids.lit rfl<|Cells.lit rfl rfl<|CallQ.o (λr=>V.tup [(slr true 1 Af) r.1,V.bool r.2]) (by rfl) h (λr h=>L3 h) (λr4 h=> ?_)
 refine CutQ.o (λt:(Unit ⊕ Unit)=>match t with | (.inl s)=>(Ex.normal,[7,6,5,4,3],[(7,A.val (V.bool (r4.snd))),(6,A.val ((slr true 1 Af) (r4.fst))),(5,A.val ((slr false 1 Af) (r3.snd.snd))),(4,A.val ((slr false 1 Af) (r3.snd.fst))),(3,A.val ((rP true (Ag false)) (r3.fst)))]) | (.inr s)=>(Ex.ret,[2],[(2,A.val (V.bool (false)))])) h ?_ ?_
 ·intro t h;refine Cells.lit rfl rfl<|CallQ.o (λr=>V.tup [(slr true 1 Af) r.1,V.bool r.2]) (by rfl) h (λr h=>Wv h) (λr5 h=> ?_)
  refine Br.flip<|Br.ob h (λp6 h=> ?_) (λp6 h=> ?_)
  ·refine Br.no<|Br.no<|CallQ.rd V.bool (by first | rfl | simp only [V.fz,Ab,slr] | simp [Aa,V.fz,fzL,V.up,upL,Ab,Ac,Ad,slr]) (λ_=>rfl) h (λr h=>O7 h) (λr7 h=> ?_)
   refine Br.no<|Br.no<|Br.flip<|Br.ob h (λp8 h=> ?_) (λp8 h=> ?_)
   ·cases h;exact ⟨rfl,rfl⟩
   cases h;exact ⟨rfl,rfl⟩
  refine Br.yes<|Br.yes<|Br.yes<|Br.yes<|Br.yes ?_
  cases h;exact ⟨rfl,rfl⟩
 rintro (⟨⟩ | ⟨⟩) h
 ·try dsimp only at h
  refine Cells.lit rfl rfl<|CallQ.o (λr=>V.tup [(slr true 1 Af) r.1,V.bool r.2]) (by rfl) h (λr h=>Agv h) (λr10 h=> ?_)
  refine CutQ.o (λt:(Unit ⊕ Unit)=>match t with | (.inl s)=>(Ex.normal,[11,10,7,6,5,4,3],[(11,A.val (V.bool (r10.snd))),(10,A.val ((slr true 1 Af) (r10.fst))),(7,A.val (V.bool (r4.snd))),(6,A.val ((slr true 1 Af) (r4.fst))),(5,A.val ((slr false 1 Af) (r3.snd.snd))),(4,A.val ((slr false 1 Af) (r3.snd.fst))),(3,A.val ((rP true (Ag false)) (r3.fst)))]) | (.inr s)=>(Ex.ret,[2],[(2,A.val (V.bool (false)))])) h ?_ ?_
  ·intro t h;refine Cells.lit rfl rfl<|CallQ.o (λr=>V.tup [(slr true 1 Af) r.1,V.bool r.2]) (by rfl) h (λr h=>Afy h) (λr11 h=> ?_)
   refine Br.flip<|Br.ob h (λp12 h=> ?_) (λp12 h=> ?_)
   ·refine Br.no<|Br.no<|CallQ.rd V.bool (by first | rfl | simp only [V.fz,Ab,slr] | simp [Aa,V.fz,fzL,V.up,upL,Ab,Ac,Ad,slr]) (λ_=>rfl) h (λr h=>O7 h) (λr13 h=> ?_)
    refine Br.no<|Br.no<|Br.flip<|Br.ob h (λp14 h=> ?_) (λp14 h=> ?_)
    ·cases h;exact ⟨rfl,rfl⟩
    cases h;exact ⟨rfl,rfl⟩
   refine Br.yes<|Br.yes<|Br.yes<|Br.yes<|Br.yes ?_
   cases h;exact ⟨rfl,rfl⟩
  rintro (⟨⟩ | ⟨⟩) h
  ·try dsimp only at h
   refine Cells.lit rfl rfl<|CallQ.o (λr=>V.tup [(slr true 1 Af) r.1,V.bool r.2]) (by rfl) h (λr h=>Acd h) (λr16 h=> ?_)
   refine CutQ.o (λt:(Unit ⊕ Unit)=>match t with | (.inl s)=>(Ex.normal,[15,14,11,10,7,6,5,4,3],[(15,A.val (V.bool (r16.snd))),(14,A.val ((slr true 1 Af) (r16.fst))),(11,A.val (V.bool (r10.snd))),(10,A.val ((slr true 1 Af) (r10.fst))),(7,A.val (V.bool (r4.snd))),(6,A.val ((slr true 1 Af) (r4.fst))),(5,A.val ((slr false 1 Af) (r3.snd.snd))),(4,A.val ((slr false 1 Af) (r3.snd.fst))),(3,A.val ((rP true (Ag false)) (r3.fst)))]) | (.inr s)=>(Ex.ret,[2],[(2,A.val (V.bool (false)))])) h ?_ ?_
   ·intro t h;refine Cells.lit rfl rfl<|CallQ.o (λr=>V.tup [(slr false 1 Af) r.1,V.bool r.2]) (by rfl) h (λr h=>Anf h) (λr17 h=> ?_)
    refine Br.flip<|Br.ob h (λp18 h=> ?_) (λp18 h=> ?_)
    ·refine Br.no<|Br.no<|Br.no<|Br.flip<|Br.ob h (λp19 h=> ?_) (λp19 h=> ?_)
     ·refine Br.no<|Br.no<|CallQ.rd V.bool (by first | rfl | simp only [V.fz,V.up,Ab,slr] | simp [Aa,V.fz,fzL,V.up,upL,Ab,Ac,Ad,slr]) (λ_=>rfl) h (λr h=>O7 h) (λr20 h=> ?_)
      refine Br.no<|Br.no<|Br.flip<|Br.ob h (λp21 h=> ?_) (λp21 h=> ?_)
      ·cases h;exact ⟨rfl,rfl⟩
      cases h;exact ⟨rfl,rfl⟩
     refine Br.yes<|Br.yes<|Br.yes<|Br.yes<|Br.yes ?_
     cases h;exact ⟨rfl,rfl⟩
    refine Br.yes<|Br.yes<|Br.yes<|Br.yes<|Br.yes<|Br.yes<|Br.yes<|Br.yes<|Br.yes ?_
    cases h;exact ⟨rfl,rfl⟩
   rintro (⟨⟩ | ⟨⟩) h
   ·try dsimp only at h
    refine Br.flip<|Br.ob h (λp23 h=> ?_) (λp23 h=> ?_)
    ·refine Cells.lit rfl rfl<|CallQ.o (λr=>V.tup [(Ag true) r.1,V.bool r.2]) (by rfl) h (λr h=>L6 h) (λr24 h=> ?_)
     refine SetKids.lit rfl<|Cells.lit rfl rfl<|CallQ.rd (λr=>V.tup [(Ag true) r.1,V.bool r.2]) (by first | rfl | simp only [V.fz,Ab,slr] | simp [Aa,V.fz,fzL,V.up,upL,Ab,Ac,Ad,slr]) (λ_=>by simp [V.noFz,Bo,Ba]) h (λr h=>Jc h) (λr25 h=> ?_)
     refine SetKids.lit rfl<|Cells.lit rfl rfl<|CallQ.o (λr=>V.tup [(Ag true) r.1,V.bool r.2]) (by rfl) h (λr h=>Jc h) (λr26 h=> ?_)
     refine SetKids.lit rfl<|Cells.lit rfl rfl<|CallQ.rd (λr=>V.tup [(Ag true) r.1,V.bool r.2]) (by first | rfl | simp only [V.fz,Ab,slr] | simp [Aa,V.fz,fzL,V.up,upL,Ab,Ac,Ad,slr]) (λ_=>by simp [V.noFz,Bo,Ba]) h (λr h=>L6 h) (λr27 h=> ?_)
     refine SetKids.lit rfl<|Cells.lit rfl rfl<|Cells.lit rfl rfl<|CallQ.rd (λr=>V.tup [V.bool r.1,V.bool r.2]) (by first | rfl | simp only [V.fz,Ab] | simp [Aa,V.fz,fzL,V.up,upL,Ab,Ac,Ad,slr]) (λ_=>by simp [V.noFz,Bo]) h (λr h=>Adb h) (λr28 h=> ?_)
     refine CutQ.o (λt:(Unit ⊕ Unit)=>match t with | (.inl s)=>(Ex.normal,[24,14,10,5,3],[(24,A.val ((rP true (Ag true)) (r27.fst))),(14,A.val ((slr true 1 Af) (r16.fst))),(10,A.val ((slr true 1 Af) (r10.fst))),(5,A.val ((slr false 1 Af) (r3.snd.snd))),(3,A.val ((rP true (Ag false)) (r3.fst)))]) | (.inr s)=>(Ex.ret,[2],[(2,A.val (V.bool (false)))])) h ?_ ?_
     ·intro t h;refine Br.flip<|Br.ob h (λp29 h=> ?_) (λp29 h=> ?_)
      ·refine Br.no<|Br.no<|Br.flip<|Br.ob h (λp30 h=> ?_) (λp30 h=> ?_)
       ·refine Br.no<|Br.no<|Br.flip<|Br.ob h (λp31 h=> ?_) (λp31 h=> ?_)
        ·refine Br.no<|Br.no<|Br.flip<|Br.ob h (λp32 h=> ?_) (λp32 h=> ?_)
         ·refine Br.no<|Br.no<|Br.flip<|Br.ob h (λp33 h=> ?_) (λp33 h=> ?_)
          ·refine Br.no<|Br.no<|Br.flip<|Br.ob h (λp34 h=> ?_) (λp34 h=> ?_)
           ·refine Br.no<|Br.ob h (λp35 h=> ?_) (λp35 h=> ?_)
            ·refine Br.yes<|Br.no<|Br.yes<|Br.no<|Br.flip<|Br.ob h (λp36 h=> ?_) (λp36 h=> ?_)
             ·cases h;exact ⟨rfl,rfl⟩
             cases h;exact ⟨rfl,rfl⟩
            refine Br.no<|Br.no<|Br.no<|Br.no<|Br.no ?_
            cases h;exact ⟨rfl,rfl⟩
           refine Br.yes<|Br.yes<|Br.yes<|Br.yes ?_
           cases h;exact ⟨rfl,rfl⟩
          refine Br.yes<|Br.yes<|Br.yes<|Br.yes<|Br.yes<|Br.yes<|Br.yes ?_
          cases h;exact ⟨rfl,rfl⟩
         refine Br.yes<|Br.yes<|Br.yes<|Br.yes<|Br.yes<|Br.yes<|Br.yes<|Br.yes<|Br.yes<|Br.yes ?_
         cases h;exact ⟨rfl,rfl⟩
        refine Br.yes<|Br.yes<|Br.yes<|Br.yes<|Br.yes<|Br.yes<|Br.yes<|Br.yes<|Br.yes<|Br.yes<|Br.yes<|Br.yes<|Br.yes ?_
        cases h;exact ⟨rfl,rfl⟩
       refine Br.yes<|Br.yes<|Br.yes<|Br.yes<|Br.yes<|Br.yes<|Br.yes<|Br.yes<|Br.yes<|Br.yes<|Br.yes<|Br.yes<|Br.yes<|Br.yes<|Br.yes<|Br.yes ?_
       cases h;exact ⟨rfl,rfl⟩
      refine Br.yes<|Br.yes<|Br.yes<|Br.yes<|Br.yes<|Br.yes<|Br.yes<|Br.yes<|Br.yes<|Br.yes<|Br.yes<|Br.yes<|Br.yes<|Br.yes<|Br.yes<|Br.yes<|Br.yes<|Br.yes<|Br.yes ?_
      cases h;exact ⟨rfl,rfl⟩
     rintro (⟨⟩ | ⟨⟩) h
     ·try dsimp only at h
      refine Cells.lit rfl rfl<|CallQ.rd (λr=>V.tup [(Ag true) r.1,V.bool r.2]) (by first | rfl | simp only [V.fz,fzL,Ab,slr] | simp [Aa,V.fz,fzL,V.up,upL,Ab,Ac,Ad,slr]) (λ_=>by simp [V.noFz,Bo,Ba]) h (λr h=>L6 h) (λr38 h=> ?_)
      refine SetKids.lit rfl<|Cells.lit rfl rfl<|CallQ.rd (λr=>V.tup [(slr true 1 Af) r.1,V.bool r.2]) (by first | rfl | simp only [V.fz,fzL,V.up,Ab,slr] | simp [Aa,V.fz,fzL,V.up,upL,Ab,Ac,Ad,slr]) (λ_=>by simp [V.noFz,Bo,Ba]) h (λr h=>L3 h) (λr39 h=> ?_)
      refine Cells.lit rfl rfl<|CallQ.rd (λr=>V.tup [(Ag true) r.1,V.bool r.2]) (by first | rfl | simp only [V.fz,Ab,slr] | simp [Aa,V.fz,fzL,V.up,upL,Ab,Ac,Ad,slr]) (λ_=>by simp [V.noFz,Bo,Ba]) h (λr h=>Jc h) (λr40 h=> ?_)
      refine SetKids.lit rfl<|Cells.lit rfl rfl<|CallQ.rd (λr=>V.tup [(slr true 1 Af) r.1,V.bool r.2]) (by first | rfl | simp only [V.fz,fzL,V.up,Ab,slr] | simp [Aa,V.fz,fzL,V.up,upL,Ab,Ac,Ad,slr]) (λ_=>by simp [V.noFz,Bo,Ba]) h (λr h=>Acd h) (λr41 h=> ?_)
      refine Br.ob h (λp42 h=> ?_) (λp42 h=> ?_)
      ·refine Br.yes<|Br.ob h (λp43 h=> ?_) (λp43 h=> ?_)
       ·refine Br.yes<|Br.ob h (λp44 h=> ?_) (λp44 h=> ?_)
        ·refine Br.yes<|Br.ob h (λp45 h=> ?_) (λp45 h=> ?_)
         ·refine Br.yes<|Br.yes<|CallQ.rd V.bool (by first | rfl | simp only [V.fz,Ab,slr] | simp [Aa,V.fz,fzL,V.up,upL,Ab,Ac,Ad,slr]) (λ_=>rfl) h (λr h=>O7 h) (λr46 h=> ?_)
          refine Br.yes<|Br.ob h (λp47 h=> ?_) (λp47 h=> ?_)
          ·refine Cells.lit rfl rfl<|Br.yes<|Cells.lit rfl rfl<|Br.yes<|CallQ.rd V.bool (by first | rfl | simp only [V.fz,Ab] | simp [Aa,V.fz,fzL,V.up,upL,Ab,Ac,Ad,slr]) (λ_=>rfl) h (λr h=>Aof h) (λr48 h=> ?_)
           refine Br.yes ?_;cases h;exact (by rfl)
          refine Br.no<|Br.no<|Br.no ?_
          cases h;exact (by rfl)
         refine Br.no<|Br.no<|Br.no<|Br.no<|Br.no<|Br.no<|Br.no ?_
         cases h;exact (by rfl)
        refine Br.no<|Br.no<|Br.no<|Br.no<|Br.no<|Br.no<|Br.no<|Br.no<|Br.no ?_
        cases h;exact (by rfl)
       refine Br.no<|Br.no<|Br.no<|Br.no<|Br.no<|Br.no<|Br.no<|Br.no<|Br.no<|Br.no<|Br.no ?_
       cases h;exact (by rfl)
      refine Br.no<|Br.no<|Br.no<|Br.no<|Br.no<|Br.no<|Br.no<|Br.no<|Br.no<|Br.no<|Br.no<|Br.no<|Br.no ?_
      cases h;exact (by rfl)
     try dsimp only at h
     cases h;exact (by rfl)
    cases h;exact (by rfl)
   try dsimp only at h
   cases h;exact (by rfl)
  try dsimp only at h
  cases h;exact (by rfl)
 try dsimp only at h
 cases h;exact (by rfl)
end Go.Proofs.YtmkgjnphianalaaGreat.Ax
