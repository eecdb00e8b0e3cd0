/-
 What the functions compute, as functions on plain data, and that the program does compute it; written by program.
-/
import Derived.Test.YtaalgpkajkogkaaCode
import Derived.Test.YtaalgpkajkogkaaG1
import Derived.Test.YtaalgpkajkogkaaG2
import Derived.Test.YtaalgpkajkogkaaG13
namespace Go.Proofs.Ytaalgpkajkogkaa.Ax
open Go
set_option maxRecDepth 100000
set_option maxHeartbeats 4000000
noncomputable def Cj (s0:SrowSearch) (row0:(List Int)) (op0:Int) (args0:(List Int)):Option (Bool×SrowSearch):=
 (Ij (row0)).bind λr1=>
 if ((Gs s0.seen r1).getD false)=true then
 some (true,s0)
 else
 if (↑s0.rows.length:Int)=(150:Int) then
 some (false,{ a:=s0.a,good:=s0.good,rows:=s0.rows,steps:=s0.steps,seen:=s0.seen,tried:=s0.tried,state:=(3:Int) })
 else
 ask ((s0.rows).length+([row0]).length<=LIM) <|
 (H9 (args0)).bind λr4=>
 ask ((s0.steps).length+(([{ Op:=op0,Args:=r4 }]:List SCloneStep)).length<=LIM) <|
 (Is (row0) (s0.good.fst) (s0.good.snd.fst) (s0.good.snd.snd)).bind λr5=>
 if (r5)=true then
 some (false,{ a:=s0.a,good:=s0.good,rows:=s0.rows++[row0],steps:=s0.steps++[{ Op:=op0,Args:=r4 }],seen:=Lv s0.seen r1 true,tried:=s0.tried,state:=(1:Int) })
 else
 some (true,{ a:=s0.a,good:=s0.good,rows:=s0.rows++[row0],steps:=s0.steps++[{ Op:=op0,Args:=r4 }],seen:=Lv s0.seen r1 true,tried:=s0.tried,state:=s0.state })
theorem Sg {s0} {row0} {op0} {args0} {v} (h:Cj s0 row0 op0 args0=some v):Sn Try.prog Ik [(rP true Bf) s0,(slr false 1 Ae) row0,Ae op0,(slr false 1 Ae) args0] (V.bool v.1) 0 (rP true Bf v.2):=by
 refine Ql Acr (Nat.le_of_ble_eq_true rfl) ?_;unfold Cj at h;refine CallQ.o V.str (by rfl) h (λr h=>T7 h) (λr1 h=> ?_);refine Cells.lit rfl rfl<|Kid.lit rfl rfl<|LkQ.one Lf.bool V.bool s0.seen (false) (by rfl) rfl (λ_=>rfl)<|Br.ob h (λp2 h=> ?_) (λp2 h=> ?_)
 ·cases h;exact ⟨(by rfl),(by rfl)⟩
 refine Cells.lit rfl rfl<|Kid.lit rfl rfl<|Len.map<|Br.oe h (λp3 h=> ?_) (λp3 h=> ?_)
 ·refine SetKids.lit rfl ?_;cases h;exact ⟨(by rfl),(by rfl)⟩
 refine Cells.lit rfl rfl<|Kid.lit rfl rfl<|MsQ.o Lf.bool s0.seen true (by rfl) rfl<|Kid.lit rfl rfl<|SetKids.lit rfl<|Cells.lit rfl rfl<|BslQ.o (slr false 1 Ae) [row0] (by exact λ_=>⟨rfl,rfl⟩) (by rfl)<|NoOwn.o (λ_=>rfl)<|Kid.lit rfl rfl<|Kid.lit rfl rfl<|SetKids.lit rfl<|AppQ.o (m:=1) (slr false 1 Ae) (by exact λ_=>⟨rfl,rfl⟩) (s0.rows) ([row0]) (by rfl) (by rfl) h λh=>SetKids.lit rfl<|Two.mk ⟨?_,?_⟩
 ·refine SameQ.mk ⟨rfl,?_⟩;refine SameQ.mk ⟨rfl,?_⟩;refine SameQ.mk ⟨rfl,?_⟩;refine SameQ.mk ⟨rfl,?_⟩;refine Two.mk ⟨?_,?_⟩
  ·refine SameQ.mk ⟨rfl,?_⟩;refine SameQ.mk ⟨rfl,?_⟩;refine SameQ.mk ⟨rfl,?_⟩;refine Two.mk ⟨?_,?_⟩
   ·refine SameQ.mk ⟨rfl,?_⟩;refine SameQ.mk ⟨rfl,?_⟩;refine SameQ.mk ⟨rfl,?_⟩;refine Cells.lit rfl rfl<|SameQ.mk ⟨rfl,?_⟩
    refine SameQ.mk ⟨rfl,?_⟩;refine SameQ.mk ⟨rfl,?_⟩;refine CallQ.o (slr false 1 Ae) (by rfl) h (λr h=>Ret.frz (P4 h) (by first | rfl | simp only [V.fz,Ab,slr] | simp [Aa,V.fz,fzL,V.up,upL,Ab,Ac,Ad,slr])) (λr4 h=> ?_);refine SameQ.mk ⟨rfl,?_⟩;refine SameQ.mk ⟨rfl,?_⟩;refine SameQ.mk ⟨rfl,?_⟩;refine BslQ.o (Af false) ([{ Op:=op0,Args:=r4 }]) (by exact λ_=>⟨rfl,rfl⟩) (by rfl)<|SameQ.mk ⟨rfl,?_⟩
    refine NoOwn.o (λ_=>rfl)<|Kid.lit rfl rfl<|Kid.lit rfl rfl<|SetKids.lit rfl<|AppQ.o (m:=2) (Af false) (by exact λ_=>⟨rfl,rfl⟩) (s0.steps) ([{ Op:=op0,Args:=r4 }]) (by rfl) (by rfl) h λh=>SameQ.mk ⟨rfl,?_⟩
    refine SetKids.lit rfl<|Cells.lit rfl rfl<|CloV.f<|CloQ.o V.bool (by rfl) (λ_=>by first | rfl | simp [Co,V.noFz,Bq,Bb,NoFz.eq]) h (λr h=>A8 h) (λr5 h=> ?_)
    refine Br.ob h (λp6 h=> ?_) (λp6 h=> ?_)
    ·refine SetKids.lit rfl ?_;cases h;exact ⟨(by rfl),(by rfl)⟩
    cases h;exact ⟨(by rfl),(by rfl)⟩
   refine SameQ.mk ⟨rfl,?_⟩;refine SameQ.mk ⟨rfl,?_⟩;refine SameQ.mk ⟨rfl,?_⟩;refine CallQ.o (slr false 1 Ae) (by rfl) h (λr h=>Ret.frz (P4 h) (by first | rfl | simp only [V.fz,Ab,slr] | simp [Aa,V.fz,fzL,V.up,upL,Ab,Ac,Ad,slr])) (λr7 h=> ?_);refine Two.mk ⟨?_,?_⟩
   ·refine SameQ.mk ⟨rfl,?_⟩;refine SameQ.mk ⟨rfl,?_⟩;refine Cells.lit rfl rfl<|SameQ.mk ⟨rfl,?_⟩
    refine SameQ.mk ⟨rfl,?_⟩;refine SameQ.mk ⟨rfl,?_⟩;refine BslQ.o (Af false) ([{ Op:=op0,Args:=r7 }]) (by exact λ_=>⟨rfl,rfl⟩) (by rfl)<|SameQ.mk ⟨rfl,?_⟩
    refine NoOwn.o (λ_=>rfl)<|Kid.lit rfl rfl<|Kid.lit rfl rfl<|SetKids.lit rfl<|AppQ.o (m:=2) (Af false) (by exact λ_=>⟨rfl,rfl⟩) (s0.steps) ([{ Op:=op0,Args:=r7 }]) (by rfl) (by rfl) h λh=>SameQ.mk ⟨rfl,?_⟩
    refine SetKids.lit rfl<|Cells.lit rfl rfl<|CloV.f<|CloQ.o V.bool (by rfl) (λ_=>by first | rfl | simp [Co,V.noFz,Bq,Bb,NoFz.eq]) h (λr h=>A8 h) (λr8 h=> ?_)
    refine Br.ob h (λp9 h=> ?_) (λp9 h=> ?_)
    ·refine SetKids.lit rfl ?_;cases h;exact ⟨(by rfl),(by rfl)⟩
    cases h;exact ⟨(by rfl),(by rfl)⟩
   refine SameQ.mk ⟨rfl,?_⟩;refine SameQ.mk ⟨rfl,?_⟩;refine Two.mk ⟨?_,?_⟩
   ·refine SameQ.mk ⟨rfl,?_⟩;refine Cells.lit rfl rfl<|SameQ.mk ⟨rfl,?_⟩
    refine BslQ.o (Af false) ([{ Op:=op0,Args:=r7 }]) (by exact λ_=>⟨rfl,rfl⟩) (by rfl)<|SameQ.mk ⟨rfl,?_⟩
    refine NoOwn.o (λ_=>rfl)<|Kid.lit rfl rfl<|Kid.lit rfl rfl<|SetKids.lit rfl<|AppQ.o (m:=2) (Af false) (by exact λ_=>⟨rfl,rfl⟩) (s0.steps) ([{ Op:=op0,Args:=r7 }]) (by rfl) (by rfl) h λh=>SameQ.mk ⟨rfl,?_⟩
    refine SetKids.lit rfl<|Cells.lit rfl rfl<|CloV.f<|CloQ.o V.bool (by rfl) (λ_=>by first | rfl | simp [Co,V.noFz,Bq,Bb,NoFz.eq]) h (λr h=>A8 h) (λr10 h=> ?_)
    refine Br.ob h (λp11 h=> ?_) (λp11 h=> ?_)
    ·refine SetKids.lit rfl ?_;cases h;exact ⟨(by rfl),(by rfl)⟩
    cases h;exact ⟨(by rfl),(by rfl)⟩
   refine SameQ.mk ⟨rfl,?_⟩;refine BslQ.o (Af false) ([{ Op:=op0,Args:=r7 }]) (by exact λ_=>⟨rfl,rfl⟩) (by rfl)<|SameQ.mk ⟨rfl,?_⟩
   refine Cells.lit rfl rfl<|SameQ.mk ⟨rfl,?_⟩
   refine NoOwn.o (λ_=>rfl)<|Kid.lit rfl rfl<|Kid.lit rfl rfl<|SetKids.lit rfl<|AppQ.o (m:=2) (Af false) (by exact λ_=>⟨rfl,rfl⟩) (s0.steps) ([{ Op:=op0,Args:=r7 }]) (by rfl) (by rfl) h λh=>SameQ.mk ⟨rfl,?_⟩
   refine SetKids.lit rfl<|Cells.lit rfl rfl<|CloV.f<|CloQ.o V.bool (by rfl) (λ_=>by first | rfl | simp [Co,V.noFz,Bq,Bb,NoFz.eq]) h (λr h=>A8 h) (λr12 h=> ?_)
   refine Br.ob h (λp13 h=> ?_) (λp13 h=> ?_)
   ·refine SetKids.lit rfl ?_;cases h;exact ⟨(by rfl),(by rfl)⟩
   cases h;exact ⟨(by rfl),(by rfl)⟩
  refine SameQ.mk ⟨rfl,?_⟩;refine SameQ.mk ⟨rfl,?_⟩;refine SameQ.mk ⟨rfl,?_⟩;refine CallQ.o (slr false 1 Ae) (by rfl) h (λr h=>Ret.frz (P4 h) (by first | rfl | simp only [V.fz,Ab,slr] | simp [Aa,V.fz,fzL,V.up,upL,Ab,Ac,Ad,slr])) (λr14 h=> ?_);refine Two.mk ⟨?_,?_⟩
  ·refine SameQ.mk ⟨rfl,?_⟩;refine SameQ.mk ⟨rfl,?_⟩;refine Two.mk ⟨?_,?_⟩
   ·refine SameQ.mk ⟨rfl,?_⟩;refine SameQ.mk ⟨rfl,?_⟩;refine Cells.lit rfl rfl<|SameQ.mk ⟨rfl,?_⟩
    refine SameQ.mk ⟨rfl,?_⟩;refine SameQ.mk ⟨rfl,?_⟩;refine BslQ.o (Af false) ([{ Op:=op0,Args:=r14 }]) (by exact λ_=>⟨rfl,rfl⟩) (by rfl)<|SameQ.mk ⟨rfl,?_⟩
    refine NoOwn.o (λ_=>rfl)<|Kid.lit rfl rfl<|Kid.lit rfl rfl<|SetKids.lit rfl<|AppQ.o (m:=2) (Af false) (by exact λ_=>⟨rfl,rfl⟩) (s0.steps) ([{ Op:=op0,Args:=r14 }]) (by rfl) (by rfl) h λh=>SameQ.mk ⟨rfl,?_⟩
    refine SetKids.lit rfl<|Cells.lit rfl rfl<|CloV.f<|CloQ.o V.bool (by rfl) (λ_=>by first | rfl | simp [Co,V.noFz,Bq,Bb,NoFz.eq]) h (λr h=>A8 h) (λr15 h=> ?_)
    refine Br.ob h (λp16 h=> ?_) (λp16 h=> ?_)
    ·refine SetKids.lit rfl ?_;cases h;exact ⟨(by rfl),(by rfl)⟩
    cases h;exact ⟨(by rfl),(by rfl)⟩
   refine SameQ.mk ⟨rfl,?_⟩;refine SameQ.mk ⟨rfl,?_⟩;refine Two.mk ⟨?_,?_⟩
   ·refine SameQ.mk ⟨rfl,?_⟩;refine Cells.lit rfl rfl<|SameQ.mk ⟨rfl,?_⟩
    refine BslQ.o (Af false) ([{ Op:=op0,Args:=r14 }]) (by exact λ_=>⟨rfl,rfl⟩) (by rfl)<|SameQ.mk ⟨rfl,?_⟩
    refine NoOwn.o (λ_=>rfl)<|Kid.lit rfl rfl<|Kid.lit rfl rfl<|SetKids.lit rfl<|AppQ.o (m:=2) (Af false) (by exact λ_=>⟨rfl,rfl⟩) (s0.steps) ([{ Op:=op0,Args:=r14 }]) (by rfl) (by rfl) h λh=>SameQ.mk ⟨rfl,?_⟩
    refine SetKids.lit rfl<|Cells.lit rfl rfl<|CloV.f<|CloQ.o V.bool (by rfl) (λ_=>by first | rfl | simp [Co,V.noFz,Bq,Bb,NoFz.eq]) h (λr h=>A8 h) (λr17 h=> ?_)
    refine Br.ob h (λp18 h=> ?_) (λp18 h=> ?_)
    ·refine SetKids.lit rfl ?_;cases h;exact ⟨(by rfl),(by rfl)⟩
    cases h;exact ⟨(by rfl),(by rfl)⟩
   refine SameQ.mk ⟨rfl,?_⟩;refine BslQ.o (Af false) ([{ Op:=op0,Args:=r14 }]) (by exact λ_=>⟨rfl,rfl⟩) (by rfl)<|SameQ.mk ⟨rfl,?_⟩
   refine Cells.lit rfl rfl<|SameQ.mk ⟨rfl,?_⟩
   refine NoOwn.o (λ_=>rfl)<|Kid.lit rfl rfl<|Kid.lit rfl rfl<|SetKids.lit rfl<|AppQ.o (m:=2) (Af false) (by exact λ_=>⟨rfl,rfl⟩) (s0.steps) ([{ Op:=op0,Args:=r14 }]) (by rfl) (by rfl) h λh=>SameQ.mk ⟨rfl,?_⟩
   refine SetKids.lit rfl<|Cells.lit rfl rfl<|CloV.f<|CloQ.o V.bool (by rfl) (λ_=>by first | rfl | simp [Co,V.noFz,Bq,Bb,NoFz.eq]) h (λr h=>A8 h) (λr19 h=> ?_)
   refine Br.ob h (λp20 h=> ?_) (λp20 h=> ?_)
   ·refine SetKids.lit rfl ?_;cases h;exact ⟨(by rfl),(by rfl)⟩
   cases h;exact ⟨(by rfl),(by rfl)⟩
  refine SameQ.mk ⟨rfl,?_⟩;refine SameQ.mk ⟨rfl,?_⟩;refine Two.mk ⟨?_,?_⟩
  ·refine SameQ.mk ⟨rfl,?_⟩;refine Two.mk ⟨?_,?_⟩
   ·refine SameQ.mk ⟨rfl,?_⟩;refine Cells.lit rfl rfl<|SameQ.mk ⟨rfl,?_⟩
    refine BslQ.o (Af false) ([{ Op:=op0,Args:=r14 }]) (by exact λ_=>⟨rfl,rfl⟩) (by rfl)<|SameQ.mk ⟨rfl,?_⟩
    refine NoOwn.o (λ_=>rfl)<|Kid.lit rfl rfl<|Kid.lit rfl rfl<|SetKids.lit rfl<|AppQ.o (m:=2) (Af false) (by exact λ_=>⟨rfl,rfl⟩) (s0.steps) ([{ Op:=op0,Args:=r14 }]) (by rfl) (by rfl) h λh=>SameQ.mk ⟨rfl,?_⟩
    refine SetKids.lit rfl<|Cells.lit rfl rfl<|CloV.f<|CloQ.o V.bool (by rfl) (λ_=>by first | rfl | simp [Co,V.noFz,Bq,Bb,NoFz.eq]) h (λr h=>A8 h) (λr21 h=> ?_)
    refine Br.ob h (λp22 h=> ?_) (λp22 h=> ?_)
    ·refine SetKids.lit rfl ?_;cases h;exact ⟨(by rfl),(by rfl)⟩
    cases h;exact ⟨(by rfl),(by rfl)⟩
   refine SameQ.mk ⟨rfl,?_⟩;refine BslQ.o (Af false) ([{ Op:=op0,Args:=r14 }]) (by exact λ_=>⟨rfl,rfl⟩) (by rfl)<|SameQ.mk ⟨rfl,?_⟩
   refine Cells.lit rfl rfl<|SameQ.mk ⟨rfl,?_⟩
   refine NoOwn.o (λ_=>rfl)<|Kid.lit rfl rfl<|Kid.lit rfl rfl<|SetKids.lit rfl<|AppQ.o (m:=2) (Af false) (by exact λ_=>⟨rfl,rfl⟩) (s0.steps) ([{ Op:=op0,Args:=r14 }]) (by rfl) (by rfl) h λh=>SameQ.mk ⟨rfl,?_⟩
   refine SetKids.lit rfl<|Cells.lit rfl rfl<|CloV.f<|CloQ.o V.bool (by rfl) (λ_=>by first | rfl | simp [Co,V.noFz,Bq,Bb,NoFz.eq]) h (λr h=>A8 h) (λr23 h=> ?_)
   refine Br.ob h (λp24 h=> ?_) (λp24 h=> ?_)
   ·refine SetKids.lit rfl ?_;cases h;exact ⟨(by rfl),(by rfl)⟩
   cases h;exact ⟨(by rfl),(by rfl)⟩
  refine SameQ.mk ⟨rfl,?_⟩;refine BslQ.o (Af false) ([{ Op:=op0,Args:=r14 }]) (by exact λ_=>⟨rfl,rfl⟩) (by rfl)<|SameQ.mk ⟨rfl,?_⟩
  refine SameQ.mk ⟨rfl,?_⟩;refine Cells.lit rfl rfl<|SameQ.mk ⟨rfl,?_⟩
  refine NoOwn.o (λ_=>rfl)<|Kid.lit rfl rfl<|Kid.lit rfl rfl<|SetKids.lit rfl<|AppQ.o (m:=2) (Af false) (by exact λ_=>⟨rfl,rfl⟩) (s0.steps) ([{ Op:=op0,Args:=r14 }]) (by rfl) (by rfl) h λh=>SameQ.mk ⟨rfl,?_⟩
  refine SetKids.lit rfl<|Cells.lit rfl rfl<|CloV.f<|CloQ.o V.bool (by rfl) (λ_=>by first | rfl | simp [Co,V.noFz,Bq,Bb,NoFz.eq]) h (λr h=>A8 h) (λr25 h=> ?_)
  refine Br.ob h (λp26 h=> ?_) (λp26 h=> ?_)
  ·refine SetKids.lit rfl ?_;cases h;exact ⟨(by rfl),(by rfl)⟩
  cases h;exact ⟨(by rfl),(by rfl)⟩
 refine SameQ.mk ⟨rfl,?_⟩;refine SameQ.mk ⟨rfl,?_⟩;refine SameQ.mk ⟨rfl,?_⟩;refine SameQ.mk ⟨rfl,?_⟩;refine CallQ.o (slr false 1 Ae) (by rfl) h (λr h=>Ret.frz (P4 h) (by first | rfl | simp only [V.fz,Ab,slr] | simp [Aa,V.fz,fzL,V.up,upL,Ab,Ac,Ad,slr])) (λr27 h=> ?_);refine Two.mk ⟨?_,?_⟩
 ·refine SameQ.mk ⟨rfl,?_⟩;refine SameQ.mk ⟨rfl,?_⟩;refine SameQ.mk ⟨rfl,?_⟩;refine Two.mk ⟨?_,?_⟩
  ·refine SameQ.mk ⟨rfl,?_⟩;refine SameQ.mk ⟨rfl,?_⟩;refine Two.mk ⟨?_,?_⟩
   ·refine SameQ.mk ⟨rfl,?_⟩;refine SameQ.mk ⟨rfl,?_⟩;refine Cells.lit rfl rfl<|SameQ.mk ⟨rfl,?_⟩
    refine SameQ.mk ⟨rfl,?_⟩;refine SameQ.mk ⟨rfl,?_⟩;refine BslQ.o (Af false) ([{ Op:=op0,Args:=r27 }]) (by exact λ_=>⟨rfl,rfl⟩) (by rfl)<|SameQ.mk ⟨rfl,?_⟩
    refine NoOwn.o (λ_=>rfl)<|Kid.lit rfl rfl<|Kid.lit rfl rfl<|SetKids.lit rfl<|AppQ.o (m:=2) (Af false) (by exact λ_=>⟨rfl,rfl⟩) (s0.steps) ([{ Op:=op0,Args:=r27 }]) (by rfl) (by rfl) h λh=>SameQ.mk ⟨rfl,?_⟩
    refine SetKids.lit rfl<|Cells.lit rfl rfl<|CloV.f<|CloQ.o V.bool (by rfl) (λ_=>by first | rfl | simp [Co,V.noFz,Bq,Bb,NoFz.eq]) h (λr h=>A8 h) (λr28 h=> ?_)
    refine Br.ob h (λp29 h=> ?_) (λp29 h=> ?_)
    ·refine SetKids.lit rfl ?_;cases h;exact ⟨(by rfl),(by rfl)⟩
    cases h;exact ⟨(by rfl),(by rfl)⟩
   refine SameQ.mk ⟨rfl,?_⟩;refine SameQ.mk ⟨rfl,?_⟩;refine Two.mk ⟨?_,?_⟩
   ·refine SameQ.mk ⟨rfl,?_⟩;refine Cells.lit rfl rfl<|SameQ.mk ⟨rfl,?_⟩
    refine BslQ.o (Af false) ([{ Op:=op0,Args:=r27 }]) (by exact λ_=>⟨rfl,rfl⟩) (by rfl)<|SameQ.mk ⟨rfl,?_⟩
    refine NoOwn.o (λ_=>rfl)<|Kid.lit rfl rfl<|Kid.lit rfl rfl<|SetKids.lit rfl<|AppQ.o (m:=2) (Af false) (by exact λ_=>⟨rfl,rfl⟩) (s0.steps) ([{ Op:=op0,Args:=r27 }]) (by rfl) (by rfl) h λh=>SameQ.mk ⟨rfl,?_⟩
    refine SetKids.lit rfl<|Cells.lit rfl rfl<|CloV.f<|CloQ.o V.bool (by rfl) (λ_=>by first | rfl | simp [Co,V.noFz,Bq,Bb,NoFz.eq]) h (λr h=>A8 h) (λr30 h=> ?_)
    refine Br.ob h (λp31 h=> ?_) (λp31 h=> ?_)
    ·refine SetKids.lit rfl ?_;cases h;exact ⟨(by rfl),(by rfl)⟩
    cases h;exact ⟨(by rfl),(by rfl)⟩
   refine SameQ.mk ⟨rfl,?_⟩;refine BslQ.o (Af false) ([{ Op:=op0,Args:=r27 }]) (by exact λ_=>⟨rfl,rfl⟩) (by rfl)<|SameQ.mk ⟨rfl,?_⟩
   refine Cells.lit rfl rfl<|SameQ.mk ⟨rfl,?_⟩
   refine NoOwn.o (λ_=>rfl)<|Kid.lit rfl rfl<|Kid.lit rfl rfl<|SetKids.lit rfl<|AppQ.o (m:=2) (Af false) (by exact λ_=>⟨rfl,rfl⟩) (s0.steps) ([{ Op:=op0,Args:=r27 }]) (by rfl) (by rfl) h λh=>SameQ.mk ⟨rfl,?_⟩
   refine SetKids.lit rfl<|Cells.lit rfl rfl<|CloV.f<|CloQ.o V.bool (by rfl) (λ_=>by first | rfl | simp [Co,V.noFz,Bq,Bb,NoFz.eq]) h (λr h=>A8 h) (λr32 h=> ?_)
   refine Br.ob h (λp33 h=> ?_) (λp33 h=> ?_)
   ·refine SetKids.lit rfl ?_;cases h;exact ⟨(by rfl),(by rfl)⟩
   cases h;exact ⟨(by rfl),(by rfl)⟩
  refine SameQ.mk ⟨rfl,?_⟩;refine SameQ.mk ⟨rfl,?_⟩;refine Two.mk ⟨?_,?_⟩
  ·refine SameQ.mk ⟨rfl,?_⟩;refine Two.mk ⟨?_,?_⟩
   ·refine SameQ.mk ⟨rfl,?_⟩;refine Cells.lit rfl rfl<|SameQ.mk ⟨rfl,?_⟩
    refine BslQ.o (Af false) ([{ Op:=op0,Args:=r27 }]) (by exact λ_=>⟨rfl,rfl⟩) (by rfl)<|SameQ.mk ⟨rfl,?_⟩
    refine NoOwn.o (λ_=>rfl)<|Kid.lit rfl rfl<|Kid.lit rfl rfl<|SetKids.lit rfl<|AppQ.o (m:=2) (Af false) (by exact λ_=>⟨rfl,rfl⟩) (s0.steps) ([{ Op:=op0,Args:=r27 }]) (by rfl) (by rfl) h λh=>SameQ.mk ⟨rfl,?_⟩
    refine SetKids.lit rfl<|Cells.lit rfl rfl<|CloV.f<|CloQ.o V.bool (by rfl) (λ_=>by first | rfl | simp [Co,V.noFz,Bq,Bb,NoFz.eq]) h (λr h=>A8 h) (λr34 h=> ?_)
    refine Br.ob h (λp35 h=> ?_) (λp35 h=> ?_)
    ·refine SetKids.lit rfl ?_;cases h;exact ⟨(by rfl),(by rfl)⟩
    cases h;exact ⟨(by rfl),(by rfl)⟩
   refine SameQ.mk ⟨rfl,?_⟩;refine BslQ.o (Af false) ([{ Op:=op0,Args:=r27 }]) (by exact λ_=>⟨rfl,rfl⟩) (by rfl)<|SameQ.mk ⟨rfl,?_⟩
   refine Cells.lit rfl rfl<|SameQ.mk ⟨rfl,?_⟩
   refine NoOwn.o (λ_=>rfl)<|Kid.lit rfl rfl<|Kid.lit rfl rfl<|SetKids.lit rfl<|AppQ.o (m:=2) (Af false) (by exact λ_=>⟨rfl,rfl⟩) (s0.steps) ([{ Op:=op0,Args:=r27 }]) (by rfl) (by rfl) h λh=>SameQ.mk ⟨rfl,?_⟩
   refine SetKids.lit rfl<|Cells.lit rfl rfl<|CloV.f<|CloQ.o V.bool (by rfl) (λ_=>by first | rfl | simp [Co,V.noFz,Bq,Bb,NoFz.eq]) h (λr h=>A8 h) (λr36 h=> ?_)
   refine Br.ob h (λp37 h=> ?_) (λp37 h=> ?_)
   ·refine SetKids.lit rfl ?_;cases h;exact ⟨(by rfl),(by rfl)⟩
   cases h;exact ⟨(by rfl),(by rfl)⟩
  refine SameQ.mk ⟨rfl,?_⟩;refine BslQ.o (Af false) ([{ Op:=op0,Args:=r27 }]) (by exact λ_=>⟨rfl,rfl⟩) (by rfl)<|SameQ.mk ⟨rfl,?_⟩
  refine SameQ.mk ⟨rfl,?_⟩;refine Cells.lit rfl rfl<|SameQ.mk ⟨rfl,?_⟩
  refine NoOwn.o (λ_=>rfl)<|Kid.lit rfl rfl<|Kid.lit rfl rfl<|SetKids.lit rfl<|AppQ.o (m:=2) (Af false) (by exact λ_=>⟨rfl,rfl⟩) (s0.steps) ([{ Op:=op0,Args:=r27 }]) (by rfl) (by rfl) h λh=>SameQ.mk ⟨rfl,?_⟩
  refine SetKids.lit rfl<|Cells.lit rfl rfl<|CloV.f<|CloQ.o V.bool (by rfl) (λ_=>by first | rfl | simp [Co,V.noFz,Bq,Bb,NoFz.eq]) h (λr h=>A8 h) (λr38 h=> ?_)
  refine Br.ob h (λp39 h=> ?_) (λp39 h=> ?_)
  ·refine SetKids.lit rfl ?_;cases h;exact ⟨(by rfl),(by rfl)⟩
  cases h;exact ⟨(by rfl),(by rfl)⟩
 refine SameQ.mk ⟨rfl,?_⟩;refine SameQ.mk ⟨rfl,?_⟩;refine SameQ.mk ⟨rfl,?_⟩;refine Two.mk ⟨?_,?_⟩
 ·refine SameQ.mk ⟨rfl,?_⟩;refine SameQ.mk ⟨rfl,?_⟩;refine Two.mk ⟨?_,?_⟩
  ·refine SameQ.mk ⟨rfl,?_⟩;refine Two.mk ⟨?_,?_⟩
   ·refine SameQ.mk ⟨rfl,?_⟩;refine Cells.lit rfl rfl<|SameQ.mk ⟨rfl,?_⟩
    refine BslQ.o (Af false) ([{ Op:=op0,Args:=r27 }]) (by exact λ_=>⟨rfl,rfl⟩) (by rfl)<|SameQ.mk ⟨rfl,?_⟩
    refine NoOwn.o (λ_=>rfl)<|Kid.lit rfl rfl<|Kid.lit rfl rfl<|SetKids.lit rfl<|AppQ.o (m:=2) (Af false) (by exact λ_=>⟨rfl,rfl⟩) (s0.steps) ([{ Op:=op0,Args:=r27 }]) (by rfl) (by rfl) h λh=>SameQ.mk ⟨rfl,?_⟩
    refine SetKids.lit rfl<|Cells.lit rfl rfl<|CloV.f<|CloQ.o V.bool (by rfl) (λ_=>by first | rfl | simp [Co,V.noFz,Bq,Bb,NoFz.eq]) h (λr h=>A8 h) (λr40 h=> ?_)
    refine Br.ob h (λp41 h=> ?_) (λp41 h=> ?_)
    ·refine SetKids.lit rfl ?_;cases h;exact ⟨(by rfl),(by rfl)⟩
    cases h;exact ⟨(by rfl),(by rfl)⟩
   refine SameQ.mk ⟨rfl,?_⟩;refine BslQ.o (Af false) ([{ Op:=op0,Args:=r27 }]) (by exact λ_=>⟨rfl,rfl⟩) (by rfl)<|SameQ.mk ⟨rfl,?_⟩
   refine Cells.lit rfl rfl<|SameQ.mk ⟨rfl,?_⟩
   refine NoOwn.o (λ_=>rfl)<|Kid.lit rfl rfl<|Kid.lit rfl rfl<|SetKids.lit rfl<|AppQ.o (m:=2) (Af false) (by exact λ_=>⟨rfl,rfl⟩) (s0.steps) ([{ Op:=op0,Args:=r27 }]) (by rfl) (by rfl) h λh=>SameQ.mk ⟨rfl,?_⟩
   refine SetKids.lit rfl<|Cells.lit rfl rfl<|CloV.f<|CloQ.o V.bool (by rfl) (λ_=>by first | rfl | simp [Co,V.noFz,Bq,Bb,NoFz.eq]) h (λr h=>A8 h) (λr42 h=> ?_)
   refine Br.ob h (λp43 h=> ?_) (λp43 h=> ?_)
   ·refine SetKids.lit rfl ?_;cases h;exact ⟨(by rfl),(by rfl)⟩
   cases h;exact ⟨(by rfl),(by rfl)⟩
  refine SameQ.mk ⟨rfl,?_⟩;refine BslQ.o (Af false) ([{ Op:=op0,Args:=r27 }]) (by exact λ_=>⟨rfl,rfl⟩) (by rfl)<|SameQ.mk ⟨rfl,?_⟩
  refine SameQ.mk ⟨rfl,?_⟩;refine Cells.lit rfl rfl<|SameQ.mk ⟨rfl,?_⟩
  refine NoOwn.o (λ_=>rfl)<|Kid.lit rfl rfl<|Kid.lit rfl rfl<|SetKids.lit rfl<|AppQ.o (m:=2) (Af false) (by exact λ_=>⟨rfl,rfl⟩) (s0.steps) ([{ Op:=op0,Args:=r27 }]) (by rfl) (by rfl) h λh=>SameQ.mk ⟨rfl,?_⟩
  refine SetKids.lit rfl<|Cells.lit rfl rfl<|CloV.f<|CloQ.o V.bool (by rfl) (λ_=>by first | rfl | simp [Co,V.noFz,Bq,Bb,NoFz.eq]) h (λr h=>A8 h) (λr44 h=> ?_)
  refine Br.ob h (λp45 h=> ?_) (λp45 h=> ?_)
  ·refine SetKids.lit rfl ?_;cases h;exact ⟨(by rfl),(by rfl)⟩
  cases h;exact ⟨(by rfl),(by rfl)⟩
 refine SameQ.mk ⟨rfl,?_⟩;refine SameQ.mk ⟨rfl,?_⟩;refine BslQ.o (Af false) ([{ Op:=op0,Args:=r27 }]) (by exact λ_=>⟨rfl,rfl⟩) (by rfl)<|SameQ.mk ⟨rfl,?_⟩
 refine SameQ.mk ⟨rfl,?_⟩;refine SameQ.mk ⟨rfl,?_⟩;refine SameQ.mk ⟨rfl,?_⟩;refine Cells.lit rfl rfl<|SameQ.mk ⟨rfl,?_⟩
 refine NoOwn.o (λ_=>rfl)<|Kid.lit rfl rfl<|Kid.lit rfl rfl<|SetKids.lit rfl<|AppQ.o (m:=2) (Af false) (by exact λ_=>⟨rfl,rfl⟩) (s0.steps) ([{ Op:=op0,Args:=r27 }]) (by rfl) (by rfl) h λh=>SameQ.mk ⟨rfl,?_⟩
 refine SetKids.lit rfl<|Cells.lit rfl rfl<|CloV.f<|CloQ.o V.bool (by rfl) (λ_=>by first | rfl | simp [Co,V.noFz,Bq,Bb,NoFz.eq]) h (λr h=>A8 h) (λr46 h=> ?_)
 refine Br.ob h (λp47 h=> ?_) (λp47 h=> ?_)
 ·refine SetKids.lit rfl ?_;cases h;exact ⟨(by rfl),(by rfl)⟩
 cases h;exact ⟨(by rfl),(by rfl)⟩
end Go.Proofs.Ytaalgpkajkogkaa.Ax
