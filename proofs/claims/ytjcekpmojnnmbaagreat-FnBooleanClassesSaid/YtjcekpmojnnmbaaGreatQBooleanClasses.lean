/-
 The law of the classes of Boolean networks, on plain functions.
-/
import Derived.Test.YtjcekpmojnnmbaaGreatPB
import Derived.Test.YtjcekpmojnnmbaaGreatLBooleanClasses
namespace Go.Proofs.YtjcekpmojnnmbaaGreat.Ax
open Go Classical
theorem Aep {xs:List Bool} (h:xs.length≤1000):Ht xs xs=some true:=by
 unfold Ht
 rw [if_neg (by simp)]
 have:=Bk (body:=Ec xs xs) (fun i=>(i:Int)) xs.length (.inr ()) (fun i hi=>by
  unfold Ec
  rw [if_pos (by omega),Af (by omega),Af (by omega),if_pos (by simp),Af (by unfold InI;omega)];rfl) (by
  unfold Ec
  rw [if_neg (by omega)])
 have e:Ao (Ec xs xs) 0=some (.inr ()):=this
 rw [e];rfl
theorem Awk {net:SNetwork} {cs:List SConstraint} {k:Nat} (hk:Azk cs k):Ao (Bo net (clN cs,true) ((k:Int),true)) 0=some (.inr ()):=by
 obtain ⟨k6,hno,hyes⟩:=hk
 have hl6:(clN cs).length=6:=rfl
 have:=Bk (body:=Bo net (clN cs,true) ((k:Int),true)) (fun i=>(i:Int)) 6 (.inr ()) (fun i hi=>by
  unfold Bo
  dsimp only
  rw [if_pos (by omega),Af (by omega),Int.toNat_natCast,Ast _ hi]
  cases hb:L9 cs i with
  | true=>
    have hki:¬i<k:=fun hh=>by rw [hno i hh] at hb;cases hb
    rw [if_pos rfl,if_neg (by omega)]
    by_cases e:(i:Int)=(k:Int)
    ·rw [if_pos e,Af (by omega),if_pos rfl,Af (by unfold InI;omega)];rfl
    ·rw [if_neg e,Af (by unfold InI;omega)];rfl
  | false=>
    have hne:¬(i:Int)=(k:Int):=fun hh=>by
     have:i=k:=by omega
     subst this
     rw [hyes hi] at hb;cases hb
    rw [if_neg (by simp),if_neg hne,Af (by unfold InI;omega)];rfl) (by
  unfold Bo
  dsimp only
  rw [if_neg (by omega)])
 exact this
theorem Axb {net:SNetwork} (h:gB net) (r4:List Bool×Bool):Ao (Bp net r4) (0,true)=some (L9 net.Constraints 2):=by
 have hf:=h.few
 have key:=Bk (body:=Bp net r4) (fun i=>((i:Int),L9 (net.Constraints.take i) 2)) net.Constraints.length (L9 net.Constraints 2) (fun i hi=>by
  obtain ⟨a,M,⟨h1,h3,hM⟩,e⟩:=I4 (h.rels i hi)
  obtain ⟨r,hr,hr0,hkc⟩:=Ad5 (a:=a) (M:=M) h1 h3 (i:=0) (by omega)
  have hfew:=Q2 h3 M
  have ho:As7 (2:Nat) (nth Qt 0):=by
   refine ⟨by decide,by decide,by decide,fun z hz=> ?_⟩
   have hz':z∈([0,0,0,1]:List Int):=hz
   simp at hz'
   rcases hz' with rfl | rfl<;>omega
  have hpw:(C0 a M).length^r≤70000:=Nat.le_trans (Ahp hfew (show r≤3 from hr.le)) (by omega)
  have hd:=Aq7 (n:=2) (r:=r) (w:=a) (by omega) (by omega) hr hr0 ho (Yd h1 h3 hM) (by dsimp only;omega) rfl h3 hpw
  have hd':F3 2 { Arity:=2,Table:=[0,0,0,1] } { Arity:=(a:Int),Tuples:=C0 a M }=some (decide (Kl (C0 a M) 2 a (nth Qt 0) r),true):=hd
  have est:L9 (net.Constraints.take (i+1)) 2=(L9 (net.Constraints.take i) 2&&nth (clB a M) 2):=by
   unfold L9
   rw [Cx hi,List.all_append]
   simp only [List.all_cons,List.all_nil,Bool.and_true]
   rw [e,Aeh h1 h3 hM]
  unfold Bp
  dsimp only
  rw [if_pos (by omega),Af (by omega),Int.toNat_natCast,e,hd',hkc,est]
  simp only [Option.bind_some]
  cases hb:L9 (net.Constraints.take i) 2 with
  | true=>
    rw [if_pos rfl,if_pos trivial,Af (by unfold InI;omega),Bool.true_and];rfl
  | false=>
    rw [if_neg (by simp),Af (by unfold InI;omega),Bool.false_and];rfl) (by
  unfold Bp
  dsimp only
  rw [if_neg (by omega),List.take_length])
 exact key
theorem Abf {code:List Int} (h:code.length≤BIG ∧ ∀x∈code,0≤x∧x≤255):Es code=some true:=by
 unfold Es Ry
 simp only [Option.bind_some]
 by_cases hbig:(code.length:Int)>65536
 ·rw [if_pos (by simpa using hbig)]
 rw [if_neg (by simpa using hbig)]
 have hL:=Bd
 obtain ⟨cl,d,ed,hd,hcl⟩:=Li (show Cur 0 ({ code:=code,at_:=0,seed:=0 }:Sl1Cur) from ⟨h.2,by dsimp only;omega,Int.le_refl _,Int.le_refl _⟩) (by omega) 8
 obtain ⟨net,d2,e2,hs⟩:=Ajd hd (by omega) (cl:=cl) hcl.1 (by omega)
 have ed':Cw code=some net:=by
  unfold Cw
  rw [ed]
  simp only [Option.bind_some]
  rw [e2];rfl
 rw [ed']
 simp only [Option.bind_some]
 obtain ⟨k,hk⟩:=A2m net.Constraints
 obtain ⟨b1,b2⟩:=O8 hs
 obtain ⟨f1,f2⟩:=Ag0 hs hk
 rw [b1]
 simp only [Option.bind_some]
 rw [b2]
 simp only [Option.bind_some]
 by_cases hg:gB net
 ·have hl6:(clN net.Constraints).length=6:=rfl
  rw [if_pos hg] at f1 f2 ⊢
  dsimp only
  rw [if_pos (show (true==true)=true from rfl),Aep (by omega)]
  simp only [Option.bind_some,if_true]
  rw [f1]
  simp only [Option.bind_some]
  rw [f2]
  simp only [Option.bind_some]
  rw [if_neg (by simp),if_pos (show (true==true)=true from rfl),if_pos (show (true==true)=true from rfl)]
  simp only [Option.bind_some]
  rw [Awk hk]
  simp only [Option.bind_some]
  rw [Yf hg hs]
  simp only [Option.bind_some]
  obtain ⟨s1,_⟩:=O8 (Amj hg hs)
  rw [s1,if_pos (Ap3 hg),A3b hg]
  simp only [Option.bind_some]
  rw [Yf (Ap3 hg) (Amj hg hs),A0k hg]
  simp only [Option.bind_some]
  rw [b1,if_pos hg]
  simp only [Option.bind_some,if_true]
  rw [if_neg (by simp [clN,swL]),Aep (by omega)]
  simp only [Option.bind_some,if_true]
  have hm:=Axb hg (clN net.Constraints,true)
  unfold clN at hm ⊢
  simp [ask,nth,swL,hm]
 ·rw [if_neg hg] at f1 f2 ⊢
  dsimp only
  rw [if_pos (show (false==false)=true from rfl),Aep (by simp [Au])]
  simp only [Option.bind_some,if_true]
  rw [f1]
  simp only [Option.bind_some]
  rw [f2]
  simp only [Option.bind_some]
  rw [if_neg (by simp),if_pos (show (false==false)=true from rfl),if_pos (show (false==false)=true from rfl)]
  simp only [Option.bind_some]
  rw [if_neg (by simp)]
end Go.Proofs.YtjcekpmojnnmbaaGreat.Ax
