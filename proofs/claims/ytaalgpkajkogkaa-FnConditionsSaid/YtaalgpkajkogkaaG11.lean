/-
 What the functions compute, as functions on plain data, and that the program does compute it; written by program.
-/
import Derived.Test.YtaalgpkajkogkaaCode
import Derived.Test.YtaalgpkajkogkaaG3
import Derived.Test.YtaalgpkajkogkaaG6
import Derived.Test.YtaalgpkajkogkaaG8
namespace Go.Proofs.Ytaalgpkajkogkaa.Ax
open Go
set_option maxRecDepth 100000
set_option maxHeartbeats 4000000
noncomputable def Ey (n0:Int) (c0:SCondition) (r1:List (List Int)):(Int×(List (List Int)))->Option ((Int×(List (List Int))) ⊕ (List (List Int))):=λ(x7,x5)=>
 if x7<c0.Arity then
 (Gn (n0) (c0.Arity) (x7)).bind λr3=>
 (Nf (n0) ({ Arity:=c0.Arity,Table:=r3 }) (r1)).bind λr4=>
 ask ((x5).length+([r4]).length<=LIM) <|
 ask (InI (x7+(1:Int))) <|
 some (.inl (x7+(1:Int),x5++[r4]))
 else
 some (.inr x5)
def Nz (n0:Int) (c0:SCondition) (r1:List (List Int)):(Int×(List (List Int)))->St:=λs=>[(7,A.val (Ae s.1)),(6,A.val (slr true 1 (slr true 1 Ae) r1)),(5,A.val (slr true 1 (slr true 1 Ae) s.2)),(3,A.val (rP true (Ah false) c0)),(0,A.val (Ae n0))]
def Uy (_n0:Int) (_c0:SCondition) (_r1:List (List Int)):(List (List Int))->Tgt
 | s=>((Ex.exit 0),[5],[(5,A.val (slr true 1 (slr true 1 Ae) s))])
theorem Afs {n0} {c0} {r1} (s) o (h:Ey n0 c0 r1 s=some o):vc Try.prog Vf (Ch [7,6,5,3,0] (Nz n0 c0 r1) (Uy n0 c0 r1) o) (Nz n0 c0 r1 s):=by
 obtain ⟨x7,x5⟩:=s;unfold Ey at h;try dsimp only at h
 refine Cells.lit rfl rfl<|Br.od h (λp2 h=> ?_) (λp2 h=> ?_)
 ·refine Cells.lit rfl rfl<|Cells.lit rfl rfl<|CallP.o (slr true 1 Ae) (by rfl) h (λr h=>Acx h) (λr3 h=> ?_)
  refine CallP.rd (slr true 1 Ae) (by first | rfl | simp only [V.fz,V.up,Ab,Ad,slr] | simp [Aa,V.fz,fzL,V.up,upL,Ab,Ac,Ad,slr]) (λ_=>by simp [V.noFz,Bb]) h (λr h=>Arg h) (λr4 h=> ?_);refine BslQ.o (slr true 1 Ae) [r4] (by exact λ_=>⟨rfl,rfl⟩) (by rfl)<|NoOwn.own rfl<|AppQ.o (m:=1) (slr true 1 Ae) (by exact λ_=>⟨rfl,rfl⟩) (x5) ([r4]) (by rfl) (by rfl) h λh=>Ask.o h λp5 h=> ?_
  cases h;exact ⟨rfl,rfl⟩
 cases h;exact ⟨rfl,rfl⟩
noncomputable def Eu (n0:Int) (c0:SCondition):Option (List (List Int)):=
 (D0 (c0)).bind λr1=>
 (Aq (Ey n0 c0 r1) ((0:Int),Av (List Int))).bind λq6_5=>
 some q6_5
theorem Tc {n0} {c0} {v} (h:Eu n0 c0=some v):Ret Try.prog Kf [Ae n0,(Ah false) c0] (slr true 1 (slr true 1 Ae) v):=by
 refine Bn Al5 (Nat.le_of_ble_eq_true rfl) ?_;unfold Eu at h;refine BslQ.o (slr true 1 Ae) (Av (List Int)) (by exact λ_=>⟨rfl,rfl⟩) (by rfl)<|Cells.lit rfl rfl<|CallQ.o (slr true 1 (slr true 1 Ae)) (by rfl) h (λr h=>J8 h) (λr1 h=> ?_)
 refine LoopQ.o [7,6,5,3,0] (Nz n0 c0 r1) (Uy n0 c0 r1) h (λs o h=>Afs s o h) (by rfl) (λ_=>rfl) ?_;rintro q6_5 h;try dsimp only at h
 cases h;exact (by rfl)
end Go.Proofs.Ytaalgpkajkogkaa.Ax
