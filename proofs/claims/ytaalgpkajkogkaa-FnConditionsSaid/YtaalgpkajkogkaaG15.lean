/-
 What the functions compute, as functions on plain data, and that the program does compute it; written by program.
-/
import Derived.Test.YtaalgpkajkogkaaCode
import Derived.Test.YtaalgpkajkogkaaG1
import Derived.Test.YtaalgpkajkogkaaG2
import Derived.Test.YtaalgpkajkogkaaG5
import Derived.Test.YtaalgpkajkogkaaG7
import Derived.Test.YtaalgpkajkogkaaG8
import Derived.Test.YtaalgpkajkogkaaG13
namespace Go.Proofs.Ytaalgpkajkogkaa.Ax
open Go
set_option maxRecDepth 100000
set_option maxHeartbeats 4000000
noncomputable def Dt (a0:SAlgebra) (_k0:Int) (_x8:Int) (x7:List SCloneStep) (r4:Int):(Int×SCloneStep×Sl1Cur)->Option ((Int×SCloneStep×Sl1Cur) ⊕ (SCloneStep×Sl1Cur)):=λ(x11,x10,x148')=>
 ((ask ((0:Int)<=r4/\r4<(↑a0.Ops.length:Int)) <|
 if x11<(nth a0.Ops r4.toNat).Arity then
 if x11<(4:Int) then
 some (.inl ())
 else
 some (.inr ())
 else
 some (.inr ()):Option (Unit ⊕ Unit))).bind λt=>match t with
 | (.inl _)=>((As (x148') ((↑x7.length:Int))).bind λ(r24,u25)=>
 ask ((x10.Args).length+([r24]).length<=LIM) <|
 ask (InI (x11+(1:Int))) <|
 some (.inl (x11+(1:Int),{ Op:=x10.Op,Args:=x10.Args++[r24] },u25)))
 | (.inr _)=>(some (.inr (x10,x148')))
def Jb (a0:SAlgebra) (k0:Int) (x8:Int) (x7:List SCloneStep) (r4:Int):(Int×SCloneStep×Sl1Cur)->St:=λs=>[(11,A.val (Ae s.1)),(10,A.val (rP true (Af true) s.2.1)),(9,A.val (Ae r4)),(8,A.val (Ae x8)),(7,A.val (slr true 2 (Af true) x7)),(4,A.val (rP true (Aj false) a0)),(0,A.ref 148 []),(148,A.val (rP true (Al false) s.2.2)),(2,A.val (Ae k0))]
def Ot (a0:SAlgebra) (k0:Int) (x8:Int) (x7:List SCloneStep) (_r4:Int):(SCloneStep×Sl1Cur)->Tgt
 | s=>((Ex.exit 2),[10,8,7,4,0,148,2],[(10,A.val (rP true (Af true) s.1)),(8,A.val (Ae x8)),(7,A.val (slr true 2 (Af true) x7)),(4,A.val (rP true (Aj false) a0)),(0,A.ref 148 []),(148,A.val (rP true (Al false) s.2)),(2,A.val (Ae k0))])
theorem Yn {a0} {k0} {x8} {x7} {r4} (s) o (h:Dt a0 k0 x8 x7 r4 s=some o):vc Try.prog Om (Ch [11,10,9,8,7,4,0,148,2] (Jb a0 k0 x8 x7 r4) (Ot a0 k0 x8 x7 r4) o) (Jb a0 k0 x8 x7 r4 s):=by
 obtain ⟨x11,x10,x148'⟩:=s;unfold Dt at h;try dsimp only at h
 refine CutQ.o (λt:(Unit ⊕ Unit)=>match t with | (.inl s)=>(Ex.normal,[11,10,9,8,7,4,0,148,2],[(11,A.val (Ae (x11))),(10,A.val ((rP true (Af true)) (x10))),(9,A.val (Ae (r4))),(8,A.val (Ae (x8))),(7,A.val ((slr true 2 (Af true)) (x7))),(4,A.val ((rP true (Aj false)) (a0))),(0,A.ref 148 []),(148,A.val ((rP true (Al false)) (x148'))),(2,A.val (Ae (k0)))]) | (.inr s)=>((Ex.exit 2),[10,8,7,4,0,148,2],[(10,A.val ((rP true (Af true)) (x10))),(8,A.val (Ae (x8))),(7,A.val ((slr true 2 (Af true)) (x7))),(4,A.val ((rP true (Aj false)) (a0))),(0,A.ref 148 []),(148,A.val ((rP true (Al false)) (x148'))),(2,A.val (Ae (k0)))])) h ?_ ?_
 ·intro t h;refine Cells.lit rfl rfl<|Len.map<|Ask.o h λp20 h=>Elem.o (by first | omega | (simp [Au] at * <;> omega))<|Br.od h (λp21 h=> ?_) (λp21 h=> ?_)
  ·refine Br.yes<|Br.yes<|Br.od h (λp22 h=> ?_) (λp22 h=> ?_)
   ·cases h;exact ⟨rfl,rfl⟩
   cases h;exact ⟨rfl,rfl⟩
  refine Br.no<|Br.no<|Br.no ?_
  cases h;exact ⟨rfl,rfl⟩
 rintro (⟨⟩ | ⟨⟩) h
 ·try dsimp only at h
  refine Cells.lit rfl rfl<|Len.map<|LendP.io Ae (rP true (Al false)) (by rfl) (λ_=>rfl) (λ_=>⟨rfl,rfl⟩) (λ_=>rfl) h (λr h=>At h) (λr24 u25 h=> ?_)
  refine BslQ.o Ae [r24] (by exact λ_=>⟨rfl,rfl⟩) (by rfl)<|NoOwn.o (λ_=>rfl)<|Kid.lit rfl rfl<|Kid.lit rfl rfl<|SetKids.lit rfl<|AppQ.o (m:=1) Ae (by exact λ_=>⟨rfl,rfl⟩) (x10.Args) ([r24]) (by rfl) (by rfl) h λh=>SetKids.lit rfl<|Ask.o h λp26 h=> ?_
  cases h;exact ⟨rfl,rfl⟩
 try dsimp only at h
 cases h;exact ⟨rfl,rfl⟩
noncomputable def Du (a0:SAlgebra) (k0:Int):(Int×(List SCloneStep)×Sl1Cur)->Option ((Int×(List SCloneStep)×Sl1Cur) ⊕ ((List SCloneStep)×Sl1Cur)):=λ(x8,x7,x148)=>
 if x8>=(0:Int) then
 (Iz (x148) (a0)).bind λ(r4,u5)=>
 ((((if (↑x7.length:Int)=(0:Int) then
 some (true,u5)
 else
 if (↑a0.Ops.length:Int)=(0:Int) then
 some (true,u5)
 else
 ask (InI ((↑a0.Ops.length:Int)-(1:Int))) <|
 (Dx (r4) ((0:Int)) ((↑a0.Ops.length:Int)-(1:Int))).bind λr9=>
 if (r9)=true then
 (Bt (u5) ((4:Int))).bind λ(r11,u12)=>
 some (r11,u12)
 else
 some (true,u5):Option (Bool×Sl1Cur))).bind λ(q13_45,q13_148)=>
 if (q13_45)=true then
 (Nd (k0) ((1:Int))).bind λr15=>
 (As (q13_148) (r15)).bind λ(r16,u17)=>
 ask ((x7).length+(([{ Op:=(-1:Int),Args:=[r16] }]:List SCloneStep)).length<=LIM) <|
 some (.inl (x7++[{ Op:=(-1:Int),Args:=[r16] }],u17))
 else
 some (.inr q13_148):Option (((List SCloneStep)×Sl1Cur) ⊕ Sl1Cur))).bind λt=>match t with
 | (.inl (q18_7,q18_148))=>(ask (InI (x8-(1:Int))) <|
 some (.inl (x8-(1:Int),q18_7,q18_148)))
 | (.inr q18_148)=>((Aq (Dt a0 k0 x8 x7 r4) ((0:Int),{ Op:=r4,Args:=Av Int },q18_148)).bind λ(q27_10,q27_148)=>
 ask ((x7).length+([q27_10]).length<=LIM) <|
 ask (InI (x8-(1:Int))) <|
 some (.inl (x8-(1:Int),x7++[q27_10],q27_148)))
 else
 some (.inr (x7,x148))
def Iy (a0:SAlgebra) (k0:Int):(Int×(List SCloneStep)×Sl1Cur)->St:=λs=>[(8,A.val (Ae s.1)),(7,A.val (slr true 2 (Af true) s.2.1)),(4,A.val (rP true (Aj false) a0)),(0,A.ref 148 []),(148,A.val (rP true (Al false) s.2.2)),(2,A.val (Ae k0))]
def Oi (a0:SAlgebra) (_k0:Int):((List SCloneStep)×Sl1Cur)->Tgt
 | s=>((Ex.exit 0),[7,4,0,148],[(7,A.val (slr true 2 (Af true) s.1)),(4,A.val (rP true (Aj false) a0)),(0,A.ref 148 []),(148,A.val (rP true (Al false) s.2))])
theorem Y2 {a0} {k0} (s) o (h:Du a0 k0 s=some o):vc Try.prog Jh (Ch [8,7,4,0,148,2] (Iy a0 k0) (Oi a0 k0) o) (Iy a0 k0 s):=by
 obtain ⟨x8,x7,x148⟩:=s;unfold Du at h;try dsimp only at h
 refine Br.od h (λp3 h=> ?_) (λp3 h=> ?_)
 ·refine Cells.lit rfl rfl<|CallQ.io Ae (rP true (Al false)) (by rfl) rfl (λ_=>rfl) (λ_=>⟨rfl,rfl⟩) rfl h (λr h=>Ake h) (λr4 u5 h=> ?_)
  refine CutQ.o (λt:(((List SCloneStep)×Sl1Cur) ⊕ Sl1Cur)=>match t with | (.inl s)=>((Ex.exit 1),[7,8,4,0,148,2],[(7,A.val ((slr true 2 (Af true)) s.1)),(8,A.val (Ae (x8))),(4,A.val ((rP true (Aj false)) (a0))),(0,A.ref 148 []),(148,A.val ((rP true (Al false)) s.2)),(2,A.val (Ae (k0)))]) | (.inr s)=>(Ex.normal,[9,8,7,4,0,148,2],[(9,A.val (Ae (r4))),(8,A.val (Ae (x8))),(7,A.val ((slr true 2 (Af true)) (x7))),(4,A.val ((rP true (Aj false)) (a0))),(0,A.ref 148 []),(148,A.val ((rP true (Al false)) s)),(2,A.val (Ae (k0)))])) h ?_ ?_
  ·intro t h;refine CutQ.o (λt:(Bool×Sl1Cur)=>match t with | s=>(Ex.normal,[45,9,8,7,4,0,148,2],[(45,A.val (V.bool s.1)),(9,A.val (Ae (r4))),(8,A.val (Ae (x8))),(7,A.val ((slr true 2 (Af true)) (x7))),(4,A.val ((rP true (Aj false)) (a0))),(0,A.ref 148 []),(148,A.val ((rP true (Al false)) s.2)),(2,A.val (Ae (k0)))])) h ?_ ?_
   ·intro t h;refine Len.map<|Br.oe h (λp6 h=> ?_) (λp6 h=> ?_)
    ·refine Br.yes<|Br.yes<|Br.yes<|Br.yes<|Br.yes<|Br.yes<|Br.yes<|Br.yes<|Br.yes<|Br.yes<|Br.yes<|Br.yes<|Br.yes<|Br.yes<|Br.yes ?_
     cases h;exact ⟨rfl,rfl⟩
    refine Br.no<|Cells.lit rfl rfl<|Br.no<|Len.map<|Br.no<|Br.no<|Br.oe h (λp7 h=> ?_) (λp7 h=> ?_)
    ·refine Br.yes<|Br.yes<|Br.yes<|Br.yes<|Br.yes<|Br.yes<|Br.yes<|Br.yes<|Br.yes<|Br.yes ?_
     cases h;exact ⟨rfl,rfl⟩
    refine Br.no<|Br.no<|Cells.lit rfl rfl<|Br.no<|Len.map<|Br.no<|Ask.o h λp8 h=>Br.no<|CallQ.o V.bool (by rfl) h (λr h=>Hc h) (λr9 h=> ?_)
    refine Br.no<|Br.no<|Br.flip<|Br.ob h (λp10 h=> ?_) (λp10 h=> ?_)
    ·refine Br.no<|CallQ.io V.bool (rP true (Al false)) (by rfl) rfl (λ_=>rfl) (λ_=>⟨rfl,rfl⟩) rfl h (λr h=>Dj h) (λr11 u12 h=> ?_)
     refine Br.no ?_;cases h;exact ⟨rfl,rfl⟩
    refine Br.yes<|Br.yes ?_
    cases h;exact ⟨rfl,rfl⟩
   rintro ⟨q13_45,q13_148⟩ h;try dsimp only at h
   refine Br.ob h (λp14 h=> ?_) (λp14 h=> ?_)
   ·refine CallQ.o Ae (by rfl) h (λr h=>Ard h) (λr15 h=> ?_);refine CallQ.io Ae (rP true (Al false)) (by rfl) rfl (λ_=>rfl) (λ_=>⟨rfl,rfl⟩) rfl h (λr h=>At h) (λr16 u17 h=> ?_);refine BslQ.o Ae [r16] (by exact λ_=>⟨rfl,rfl⟩) (by rfl)<|BslQ.o (Af true) ([{ Op:=(-1:Int),Args:=[r16] }]) (by exact λ_=>⟨rfl,rfl⟩) (by rfl)<|NoOwn.own rfl<|AppQ.o (m:=2) (Af true) (by exact λ_=>⟨rfl,rfl⟩) (x7) ([{ Op:=(-1:Int),Args:=[r16] }]) (by rfl) (by rfl) h λh=> ?_
    cases h;exact ⟨rfl,rfl⟩
   cases h;exact ⟨rfl,rfl⟩
  rintro (⟨q18_7,q18_148⟩ | q18_148) h
  ·try dsimp only at h
   refine Ask.o h λp19 h=> ?_
   cases h;exact ⟨rfl,rfl⟩
  try dsimp only at h
  refine BslQ.o Ae (Av Int) (by exact λ_=>⟨rfl,rfl⟩) (by rfl)<|SetKids.lit rfl<|LoopQ.o [11,10,9,8,7,4,0,148,2] (Jb a0 k0 x8 x7 r4) (Ot a0 k0 x8 x7 r4) h (λs o h=>Yn s o h) (by rfl) (λ_=>rfl) ?_
  rintro ⟨q27_10,q27_148⟩ h;try dsimp only at h
  refine Cells.lit rfl rfl<|BslQ.o (Af true) [q27_10] (by exact λ_=>⟨rfl,rfl⟩) (by rfl)<|NoOwn.own rfl<|AppQ.o (m:=2) (Af true) (by exact λ_=>⟨rfl,rfl⟩) (x7) ([q27_10]) (by rfl) (by rfl) h λh=>Ask.o h λp28 h=> ?_
  cases h;exact ⟨rfl,rfl⟩
 cases h;exact ⟨rfl,rfl⟩
noncomputable def Cy (_a0:SAlgebra) (r33:Int) (_u34:Sl1Cur):(List SCloneStep)->Option ((List SCloneStep) ⊕ (List SCloneStep)):=λx7=>
 if (↑x7.length:Int)<(59:Int)+r33 then
 ask ((x7).length+(([{ Op:=(-1:Int),Args:=[(0:Int)] }]:List SCloneStep)).length<=LIM) <|
 some (.inl (x7++[{ Op:=(-1:Int),Args:=[(0:Int)] }]))
 else
 some (.inr x7)
def Jg (a0:SAlgebra) (r33:Int) (u34:Sl1Cur):(List SCloneStep)->St:=λs=>[(12,A.val (Ae ((59:Int)+r33))),(7,A.val (slr true 2 (Af true) s)),(4,A.val (rP true (Aj false) a0)),(0,A.ref 148 []),(148,A.val (rP true (Al false) u34))]
def Ol (a0:SAlgebra) (_r33:Int) (u34:Sl1Cur):(List SCloneStep)->Tgt
 | s=>((Ex.exit 4),[7,4,0,148],[(7,A.val (slr true 2 (Af true) s)),(4,A.val (rP true (Aj false) a0)),(0,A.ref 148 []),(148,A.val (rP true (Al false) u34))])
theorem Xt {a0} {r33} {u34} (x7) o (h:Cy a0 r33 u34 x7=some o):vc Try.prog Od (Ch [12,7,4,0,148] (Jg a0 r33 u34) (Ol a0 r33 u34) o) (Jg a0 r33 u34 x7):=by
 unfold Cy at h;try dsimp only at h
 refine Len.map<|Br.od h (λp36 h=> ?_) (λp36 h=> ?_)
 ·refine BslQ.o Ae ([(0:Int)]) (by exact λ_=>⟨rfl,rfl⟩) (by rfl)<|BslQ.o (Af true) ([{ Op:=(-1:Int),Args:=[(0:Int)] }]) (by exact λ_=>⟨rfl,rfl⟩) (by rfl)<|NoOwn.own rfl<|AppQ.o (m:=2) (Af true) (by exact λ_=>⟨rfl,rfl⟩) (x7) ([{ Op:=(-1:Int),Args:=[(0:Int)] }]) (by rfl) (by rfl) h λh=> ?_
  cases h;exact ⟨rfl,rfl⟩
 cases h;exact ⟨rfl,rfl⟩
theorem Ay0 {α:Type} {f:α->V} {m:Nat} (hf:O7 m f) {v:V} : ∀ {xs:List α} {i:Nat},i<xs.length -> ∃l r,Bo (holeW f xs i v)=l++(v.cells++r)/\l.length=i*m:=by
 intro xs
 induction xs with
 | nil=>intro i h;simp at h
 | cons x t ih=>
   intro i h;cases i with
   | zero=>exact ⟨[],Bo (t.map f),rfl,by simp⟩
   | succ i=>
     obtain ⟨l,r,e,hl⟩:=ih (i:=i) (by simpa using h);refine ⟨(f x).cells++l,r,?_,?_⟩
     ·have:holeW f (x::t) (i+1) v=f x::holeW f t i v:=rfl;rw [this,Bo,e,List.append_assoc]
     ·rw [List.length_append,(hf x).1,hl,Nat.succ_mul];omega
theorem Kid.holeW {α:Type} {f:α->V} {m:Nat} (hf:O7 m f) {xs:List α} {i off:Nat} {v u:V} {K:V->Prop} (hi:i<xs.length) (hu:v.cells[off]? = some u) (hk:K u):Kid (.sl true m (Ax.holeW f xs i v)) (Au i m+off) K:=by obtain ⟨l,r,e,hl⟩:=Ay0 (v:=v) hf hi;refine ⟨u,rfl,?_,hk⟩;have ho:off<v.cells.length:=(List.getElem?_eq_some_iff.1 hu).1;simp only [V.kids,e];rw [Uf,List.getElem?_append_right (by omega),hl,Nat.add_sub_cancel_left,List.getElem?_append_left ho,hu]
theorem Aqq {α:Type} {f:α->V} {m:Nat} (hf:O7 m f) : ∀ {xs:List α} {i off:Nat} {us:List V} {v v':V},i<xs.length->v.cells.length=m->v.setCells off us=some v'->off<m->Sz (holeW f xs i v) (i*m+off) us=some (holeW f xs i v'):=by
 intro xs
 induction xs with
 | nil=>intro i off us v v' h;simp at h
 | cons x r ih=>
   intro i off us v v' h hv hs ho;cases i with
   | zero=>simp [holeW,Sz,hv,ho,hs]
   | succ i=> have:=ih (i:=i) (off:=off) (us:=us) (v:=v) (v':=v') (by simpa using h) hv hs ho;simp only [holeW,List.map_cons,List.set_cons_succ,Sz,(hf x).1] at this ⊢;rw [if_neg (by rw [Nat.succ_mul];omega),show (i+1)*m+off-m=i*m+off by rw [Nat.succ_mul];omega,this];simp
theorem SetKids.reholeW {α:Type} {f:α->V} {m:Nat} (hf:O7 m f) {o:Bool} {xs:List α} {i off:Nat} {us:List V} {v v':V} {K:V->Prop} (hi:i<xs.length) (hv:v.cells.length=m) (hs:v.setCells off us=some v') (ho:off<m) (hk:K (.sl o m (Ax.holeW f xs i v'))) :
  SetKids (.sl o m (Ax.holeW f xs i v)) (Au i m+off) us K:=
 ⟨_,by simp only [V.setKids,Uf,Aqq hf hi hv hs ho,Option.map_some],hk⟩
theorem A0a {α:Type} {f g:α->V} (hfg : ∀x,(f x).fz=g x) (xs:List α) (i:Nat) (w:α) (v:V) (hv:v.fz=g w):fzL (holeW f xs i v)=(xs.set i w).map g:=by
 induction xs generalizing i with
 | nil=>rfl
 | cons x r ih=>
   cases i with
   | zero=>
     have:fzL (r.map f)=r.map g:=by
      induction r with
      | nil=>rfl
      | cons y r ih2=>simp [fzL,hfg,ih2 (λi=>by have:=ih (i+1);simpa [holeW,fzL,hfg] using this)]
     simp [holeW,fzL,hv,this]
   | succ i=> have:=ih i;simpa [holeW,fzL,hfg] using this
theorem ApfQ.lit {α β:Type} {m d:Nat} {us vs:List V} {K:List V->Prop} {x:Option β} {v:β} (f:α->V) (hf:O7 m f) (ho : ∀x,Bl (f x).cells=false) (xs ys:List α) (ex:us=xs.map f) (ey:vs=ys.map f) (h:ask (xs.length+ys.length<=LIM) x=some v) (hk:x=some v->K ((xs++ys).map f)):ApfQ d us vs K:=by subst ex;subst ey;obtain ⟨h1,h2⟩:=P7.1 h;exact ⟨Ahx hf ys,Ts ho ys,Ts ho xs,by simpa using h1,by rw [<-List.map_append];exact hk h2⟩
theorem Adr {α:Type} [Inhabited α] {xs:List α} {i:Nat} (h:i<xs.length):xs.set i (nth xs i)=xs:=by
 refine List.ext_getElem? λj=> ?_
 rw [List.getElem?_set];split
 ·rename_i e;subst e;simp [h,nth,List.getD_eq_getElem?_getD]
 rfl
theorem Awk (xs:List SCloneStep) (i:Nat) (w:SCloneStep) (v:V) (hv:v.fz=Af false w):(V.sl true 2 (holeW (Af true) xs i v)).fzAt 1 = .sl true 2 ((xs.set i w).map (Af false)):=by simp only [V.fzAt,Im];rw [A0a (g:=Af false) (λx=>by first | rfl | simp [V.fz,fzL,Ab]) xs i w v hv]
theorem Ayo {α β:Type} {p:Prop} [Decidable p] {x:Option α} {g:α->Option β}:(ask p x).bind g=ask p (x.bind g):=by unfold ask;split<;>rfl
def Xj:ACode:=
 (.seq (.reg [⟨none,.mov 108 (.t 0)⟩,
 ⟨none,.call 109 Ar [((.t 108),true),((.c (.int .i64 3)),false)]⟩])
 (.drop [108] (.block 6 (.seq (.reg [⟨none,.bin 111 .eql (.t 109) (.c (.int .i64 0))⟩,
 ⟨none,.asg 110 (.t 111)⟩])
 (.drop [111] (.cond (.t 110) (.frz [230100900,90100900] (.reg [⟨none,.mov 112 (.t 0)⟩,
 ⟨none,.fadr 113 1 (.t 4)⟩,
 ⟨none,.ld 114 1 false (.t 113)⟩,
 ⟨none,.len 115 (.t 114)⟩,
 ⟨none,.bsl 116 1 [(.c (.int .i64 (-2))),(.t 115),(.c (.int .i64 0))]⟩,
 ⟨none,.call 117 A6 [((.t 112),true),((.t 116),false)]⟩,
 ⟨none,.fadr 118 0 (.t 13)⟩,
 ⟨none,.st 1 (.t 118) (.t 117)⟩]))
 (.seq (.reg [⟨none,.bin 120 .eql (.t 109) (.c (.int .i64 1))⟩,
 ⟨none,.asg 119 (.t 120)⟩])
 (.drop [120] (.cond (.t 119) (.reg [⟨none,.fadr 121 1 (.t 13)⟩,
 ⟨none,.ld 122 1 false (.t 121)⟩,
 ⟨none,.bsl 123 1 [(.c (.int .i64 0))]⟩,
 ⟨none,.apf 124 1 (.t 122) (.t 123) 900⟩,
 ⟨none,.fadr 125 1 (.t 13)⟩,
 ⟨none,.st 1 (.t 125) (.t 124)⟩])
 (.seq (.reg [⟨none,.bin 127 .eql (.t 109) (.c (.int .i64 2))⟩,
 ⟨none,.asg 126 (.t 127)⟩])
 (.drop [127] (.frz [230100900] (.cond (.t 126) (.seq (.reg [⟨none,.fadr 128 1 (.t 13)⟩,
 ⟨none,.ld 129 1 false (.t 128)⟩,
 ⟨none,.len 130 (.t 129)⟩,
 ⟨none,.bin 131 .gtr (.t 130) (.c (.int .i64 0))⟩])
 (.drop [128,129,130] (.cond (.t 131) (.dreg [(⟨none,.fadr 132 1 (.t 13)⟩,[148,136]),
 (⟨none,.ld 133 1 false (.t 132)⟩,[148,136]),
 (⟨none,.mov 134 (.t 0)⟩,[132,133,136]),
 (⟨none,.mov 135 (.t 7)⟩,[132,133,134]),
 (⟨none,.len 136 (.t 135)⟩,[132,133,134]),
 (⟨none,.bslr 137 1 [(.c (.int .i64 (-1))),(.t 136),(.c (.int .i64 3))]⟩,[132,133,134]),
 (⟨none,.call 138 A6 [((.t 134),true),((.t 137),false)]⟩,[148,132,133,136])]
 [⟨none,.iad 139 1 (.t 133) (.c (.int .i64 0))⟩,
 ⟨none,.st 1 (.t 139) (.t 138)⟩])
 .skip)))
 .skip)))))))))))))
def Abh:ACode:=
 (.seq (.reg [⟨none,.box 4 (.t 1)⟩,
 ⟨none,.asg 6 (.c (.nilsl 2))⟩])
 (.seq (.reg [⟨none,.bsl 14 2 []⟩,
 ⟨none,.asg 7 (.t 14)⟩])
 (.drop [14] (.seq (.seq (.reg [⟨none,.mov 15 (.t 0)⟩,
 ⟨none,.call 16 Ar [((.t 15),true),((.c (.int .i64 6)),false)]⟩,
 ⟨none,.asg 8 (.t 16)⟩])
 (.drop [15,16] (.block 0 (.loop Jh))))
 (.drop [15,16,8,17,18,21,22,23,9,24,25,26,27,28,29,30,31,32,33,34,35,36,37,38,39,40,41,42,43,44,45,46,47,48,49,50,51,52,53,54,55,56,57,10,11,58,59,60,61,62,63,64,65,66,67,68,69,72,73,74,75,76,77,78,79,80,70,71,81,82,83,84,19,20] (.seq (.cut N6)
 (.drop [85,86,87,88,89,12,90,91,92,93,94,95,96,97,98] (.seq (.seq (.reg [⟨none,.mov 99 (.t 0)⟩,
 ⟨none,.call 100 Cb [((.t 99),true),((.c (.int .i64 12)),false)]⟩])
 (.drop [99] (.cond (.t 100) (.seq (.nam [⟨none,.mov 101 (.t 7)⟩,
 ⟨none,.mov 102 (.t 0)⟩,
 ⟨none,.mov 103 (.t 7)⟩,
 ⟨none,.len 104 (.t 103)⟩,
 ⟨none,.call 105 Ar [((.t 102),true),((.t 104),false)]⟩,
 ⟨none,.iad 106 2 (.t 101) (.t 105)⟩,
 ⟨none,.ld 107 2 true (.t 106)⟩]
 [⟨none,.alc 13 (.agg [.int .i64 0,.nilsl 1])⟩,
 ⟨none,.st 2 (.t 13) (.t 107)⟩] 107 1 900)
 (.drop [101,102,103,104,105,106,107] (.seq Xj
 (.drop [108,109,111,110,112,113,114,115,116,117,118,120,119,121,122,123,124,125,127,126,128,129,130,131,132,133,134,135,136,137,138,139] (.frz [90100900,100007] (.dreg [(⟨none,.mov 140 (.t 7)⟩,[148]),
 (⟨none,.mov 141 (.t 0)⟩,[140]),
 (⟨none,.mov 142 (.t 7)⟩,[140,141]),
 (⟨none,.len 143 (.t 142)⟩,[140,141]),
 (⟨none,.call 144 Ar [((.t 141),true),((.t 143),false)]⟩,[148,140]),
 (⟨none,.ld 145 2 true (.t 13)⟩,[148,140,141,142,143,144])]
 [⟨none,.iad 146 2 (.t 140) (.t 144)⟩,
 ⟨none,.st 2 (.t 146) (.t 145)⟩]))))))
 .skip)))
 (.drop [99,100,101,102,103,104,105,106,107,13,108,109,111,110,112,113,114,115,116,117,118,120,119,121,122,123,124,125,127,126,128,129,130,131,132,133,134,135,136,137,138,139,140,141,142,143,144,145,146] (.seq (.reg [⟨none,.mov 147 (.t 7)⟩,
 ⟨none,.asg 6 (.t 147)⟩])
 (.drop [147] .ret)))))))))))
noncomputable def E7 (c0:Sl1Cur) (a0:SAlgebra) (k0:Int):Option (List SCloneStep×Sl1Cur):=
 (As (c0) ((6:Int))).bind λ(r1,u2)=>
 (Aq (Du a0 k0) (r1,Av SCloneStep,u2)).bind λ(q7,q148)=>
 ((Bt (q148) ((16:Int))).bind λ(r30,u31)=>
 if r30=true then
 (As (u31) ((3:Int))).bind λ(r33,u34)=>
 ask (InI ((59:Int)+r33)) <|
 (Aq (Cy a0 r33 u34) q7).bind λq35=>
 some (q35,u34)
 else
 some (q7,u31)).bind λ(q38_7,q38_148)=>
 (Bt (q38_148) ((12:Int))).bind λ(r40,u41)=>
 if r40=true then
 (As (u41) ((q38_7.length:Int))).bind λ(r42,u43)=>
 ask ((0:Int)<=r42/\r42<(q38_7.length:Int)) <|
 (As (u43) ((3:Int))).bind λ(r45,u46)=>
 (if r45=(0:Int) then
 (A5 (u46) ([(-2:Int),(a0.Ops.length:Int),(0:Int)])).bind λ(r47,u48)=>
 some (q38_7,({ Op:=r47,Args:=(nth q38_7 r42.toNat).Args }:SCloneStep),u48)
 else if r45=(1:Int) then
 ask ((nth q38_7 r42.toNat).Args.length+1<=LIM) <|
 some (q38_7,({ Op:=(nth q38_7 r42.toNat).Op,Args:=(nth q38_7 r42.toNat).Args++[(0:Int)] }:SCloneStep),u46)
 else if r45=(2:Int) then
 if ((nth q38_7 r42.toNat).Args.length:Int)>(0:Int) then
 (A5 (u46) ([(-1:Int),(q38_7.length:Int),(3:Int)])).bind λ(r49,u50)=>
 some (q38_7.set r42.toNat { Op:=(nth q38_7 r42.toNat).Op,Args:=(nth q38_7 r42.toNat).Args.set 0 r49 },({ Op:=(nth q38_7 r42.toNat).Op,Args:=(nth q38_7 r42.toNat).Args.set 0 r49 }:SCloneStep),u50)
 else
 some (q38_7,nth q38_7 r42.toNat,u46)
 else
 some (q38_7,nth q38_7 r42.toNat,u46)).bind λ(q51_7,q51_13,q51_148)=>
 (As (q51_148) ((q51_7.length:Int))).bind λ(r52,u53)=>
 ask ((0:Int)<=r52/\r52<(q51_7.length:Int)) <|
 some (q51_7.set r52.toNat q51_13,u53)
 else
 some (q38_7,u41)
theorem Abk:Bj Try.prog Ie 148 Abh Sx=true:=by kernel_rfl
theorem Ac4 {c0} {a0} {k0} {v} (h:E7 c0 a0 k0=some v):Sn Try.prog Ie [(rP true (Al false)) c0,(Aj false) a0,Ae k0] (slr false 2 (Af false) v.1) 0 (rP true (Al false) v.2):=by
 refine Akq Abk (Nat.le_of_ble_eq_true rfl) ?_;unfold E7 at h;refine BslQ.o (Af true) (Av SCloneStep) (by exact λ_=>⟨rfl,rfl⟩) (by rfl)<|CallQ.io Ae (rP true (Al false)) (by rfl) rfl (λ_=>rfl) (λ_=>⟨rfl,rfl⟩) rfl h (λr h=>At h) (λr1 u2 h=> ?_)
 refine LoopQ.o [8,7,4,0,148,2] (Iy a0 k0) (Oi a0 k0) h (λs o h=>Y2 s o h) (by rfl) (λ_=>rfl) ?_;rintro ⟨q7,q148⟩ h;try dsimp only at h
 refine CutQ.o (λt:(List SCloneStep×Sl1Cur)=>match t with | s=>(Ex.normal,[7,4,0,148],[(7,A.val ((slr true 2 (Af true)) s.1)),(4,A.val ((rP true (Aj false)) (a0))),(0,A.ref 148 []),(148,A.val ((rP true (Al false)) s.2))])) h ?_ ?_
 ·intro t h;refine CallQ.io V.bool (rP true (Al false)) (by rfl) rfl (λ_=>rfl) (λ_=>⟨rfl,rfl⟩) rfl h (λr h=>Dj h) (λr30 u31 h=> ?_);refine Br.ob h (λp32 h=> ?_) (λp32 h=> ?_)
  ·refine CallQ.io Ae (rP true (Al false)) (by rfl) rfl (λ_=>rfl) (λ_=>⟨rfl,rfl⟩) rfl h (λr h=>At h) (λr33 u34 h=> ?_);refine Ask.o h λp35 h=>LoopQ.o [12,7,4,0,148] (Jg a0 r33 u34) (Ol a0 r33 u34) h (λs o h=>Xt s o h) (by rfl) (λ_=>rfl) ?_
   intro q35 h;try dsimp only at h
   cases h;exact ⟨rfl,rfl⟩
  cases h;exact ⟨rfl,rfl⟩
 rintro ⟨q38_7,q38_148⟩ h;try dsimp only at h
 refine CallQ.io V.bool (rP true (Al false)) (by rfl) rfl (λ_=>rfl) (λ_=>⟨rfl,rfl⟩) rfl h (λr h=>Dj h) (λr40 u41 h=> ?_);refine Br.ob h (λp41 h=> ?_) (λp41 h=> ?_)
 ·refine Len.map<|CallQ.io Ae (rP true (Al false)) (by rfl) rfl (λ_=>rfl) (λ_=>⟨rfl,rfl⟩) rfl h (λr h=>At h) (λr42 u43 h=> ?_)
  refine Len.map<|Ask.o h λp44 h=>Cells.wide0 (by exact λ_=>⟨rfl,rfl⟩) (by first | omega | (simp [Au] at * <;> omega)) (by decide)<|Kid.wide (f:=Af true) (m:=2) (by exact λ_=>⟨rfl,rfl⟩) (by first | omega | (simp [Au] at * <;> omega)) rfl<|⟨λq n c=> ?_⟩
  refine SetKids.lit rfl<|CallQ.io Ae (rP true (Al false)) (by rfl) rfl (λ_=>rfl) (λ_=>⟨rfl,rfl⟩) rfl h (λr h=>At h) (λr45 u46 h=> ?_)
  refine Br.beq (λe0=> ?_) (λe0=> ?_)
  ·rw [if_pos e0] at h;refine Kid.wide (f:=Af true) (m:=2) (by exact λ_=>⟨rfl,rfl⟩) (by first | omega | (simp [Au] at * <;> omega)) rfl<|Kid.wide (f:=Af true) (m:=2) (by exact λ_=>⟨rfl,rfl⟩) (by first | omega | (simp [Au] at * <;> omega)) rfl<|SetKids.mkholeW (f:=Af true) (m:=2) (by exact λ_=>⟨rfl,rfl⟩) (.agg [Ae (nth q38_7 r42.toNat).Op,.raw (.slice q n c)]) (by first | omega | (simp [Au] at * <;> omega)) rfl (by decide)<|Kid.lit rfl rfl<|⟨rfl,?_⟩
   refine Kid.lit rfl rfl<|SetKids.lit rfl<|⟨rfl,?_⟩
   refine Kid.lit rfl rfl<|Kid.lit rfl rfl<|SetKids.lit rfl<|FrzQ.d (.sl false 1 ((nth q38_7 r42.toNat).Args.map Ae)) (by first | (simp only [Ak,Ac,slr];done) | (simp [Ak,V.fz,Ab,Ac,slr];done) | (simp [Ak,V.fz,fzL,Ab,slr];done))<|Kid.lit rfl rfl<|SetKids.lit rfl<|Kid.holeW (f:=Af true) (m:=2) (by exact λ_=>⟨rfl,rfl⟩) (by first | omega | (simp [Au] at * <;> omega)) rfl<|Kid.holeW (f:=Af true) (m:=2) (by exact λ_=>⟨rfl,rfl⟩) (by first | omega | (simp [Au] at * <;> omega)) rfl<|SetKids.reholeW (f:=Af true) (m:=2) (by exact λ_=>⟨rfl,rfl⟩) (v':= .agg [Ae (nth q38_7 r42.toNat).Op,.sl false 1 ((nth q38_7 r42.toNat).Args.map Ae)]) (by first | omega | (simp [Au] at * <;> omega)) rfl rfl (by decide) ?_
   rw [Option.bind_assoc] at h;refine Cells.lit rfl rfl<|Len.map<|BslQ.o Ae [(-2:Int),(a0.Ops.length:Int),(0:Int)] (by exact λ_=>⟨rfl,rfl⟩) (by rfl)<|CallQ.io Ae (rP true (Al false)) (by rfl) rfl (λ_=>rfl) (λ_=>⟨rfl,rfl⟩) rfl h (λr h=>Bc h) (λr47 u48 h=> ?_)
   refine SetKids.lit rfl ?_;simp only [Option.bind_some] at h;refine FrzQ.d (.sl true 2 (q38_7.map (Af false))) ((Awk _ _ (nth q38_7 r42.toNat) _ (by rfl)).trans (by rw [Adr (by omega)]))<|Len.map<|LendP.io Ae (rP true (Al false)) (by rfl) (λ_=>rfl) (λ_=>⟨rfl,rfl⟩) (λ_=>rfl) h (λr h=>At h) (λr52 u53 h=> ?_)
   refine Cells.lit rfl rfl<|Len.map<|Ask.o h λp54 h=>SetKids.wide0 (f:=Af false) (m:=2) (by exact λ_=>⟨rfl,rfl⟩) ({ Op:=r47,Args:=(nth q38_7 r42.toNat).Args }:SCloneStep) (by first | omega | (simp [Au] at * <;> omega)) rfl (by decide) ?_
   cases h;exact ⟨(by first | rfl | simp only [Ai,Ac,slr] | simp [Ai,Aa,V.fz,fzL,V.up,upL,Ab,Ac,Ad,slr]),(by rfl)⟩
  rw [if_neg e0] at h;refine Br.beq (λe1=> ?_) (λe1=> ?_)
  ·rw [if_pos e1] at h;refine Cells.lit rfl rfl<|BslQ.o Ae [(0:Int)] (by exact λ_=>⟨rfl,rfl⟩) (by rfl)<|NoOwn.o (λ_=>rfl)<|⟨rfl,?_⟩
   refine Kid.wide (f:=Af true) (m:=2) (by exact λ_=>⟨rfl,rfl⟩) (by first | omega | (simp [Au] at * <;> omega)) rfl<|Kid.wide (f:=Af true) (m:=2) (by exact λ_=>⟨rfl,rfl⟩) (by first | omega | (simp [Au] at * <;> omega)) rfl<|SetKids.mkholeW (f:=Af true) (m:=2) (by exact λ_=>⟨rfl,rfl⟩) (.agg [Ae (nth q38_7 r42.toNat).Op,.dead]) (by first | omega | (simp [Au] at * <;> omega)) rfl (by decide)<|Kid.holeW (f:=Af true) (m:=2) (by exact λ_=>⟨rfl,rfl⟩) (by first | omega | (simp [Au] at * <;> omega)) rfl<|SetKids.reholeW (f:=Af true) (m:=2) (by exact λ_=>⟨rfl,rfl⟩) (v':= .agg [Ae (nth q38_7 r42.toNat).Op,.sl false 1 ((nth q38_7 r42.toNat).Args.map Ae)]) (by first | omega | (simp [Au] at * <;> omega)) rfl rfl (by decide) ?_
   rw [Ayo] at h;refine ApfQ.lit Ae (by exact λ_=>⟨rfl,rfl⟩) (λ_=>rfl) (nth q38_7 r42.toNat).Args [(0:Int)] rfl rfl h (λh=> ?_);refine SetKids.lit rfl ?_;simp only [Option.bind_some] at h;refine FrzQ.d (.sl true 2 (q38_7.map (Af false))) ((Awk _ _ (nth q38_7 r42.toNat) _ (by rfl)).trans (by rw [Adr (by omega)]))<|Len.map<|LendP.io Ae (rP true (Al false)) (by rfl) (λ_=>rfl) (λ_=>⟨rfl,rfl⟩) (λ_=>rfl) h (λr h=>At h) (λr52 u53 h=> ?_)
   refine Cells.lit rfl rfl<|Len.map<|Ask.o h λp54 h=>SetKids.wide0 (f:=Af false) (m:=2) (by exact λ_=>⟨rfl,rfl⟩) ({ Op:=(nth q38_7 r42.toNat).Op,Args:=(nth q38_7 r42.toNat).Args++[(0:Int)] }:SCloneStep) (by first | omega | (simp [Au] at * <;> omega)) rfl (by decide) ?_
   cases h;exact ⟨(by first | rfl | simp only [Ai,Ac,slr] | simp [Ai,Aa,V.fz,fzL,V.up,upL,Ab,Ac,Ad,slr]),(by rfl)⟩
  rw [if_neg e1] at h;refine Kid.wide (f:=Af true) (m:=2) (by exact λ_=>⟨rfl,rfl⟩) (by first | omega | (simp [Au] at * <;> omega)) rfl<|Kid.wide (f:=Af true) (m:=2) (by exact λ_=>⟨rfl,rfl⟩) (by first | omega | (simp [Au] at * <;> omega)) rfl<|SetKids.mkholeW (f:=Af true) (m:=2) (by exact λ_=>⟨rfl,rfl⟩) (.agg [Ae (nth q38_7 r42.toNat).Op,.raw (.slice q n c)]) (by first | omega | (simp [Au] at * <;> omega)) rfl (by decide)<|Kid.lit rfl rfl<|⟨rfl,?_⟩
  refine Kid.lit rfl rfl<|SetKids.lit rfl<|Br.beq (λe2=> ?_) (λe2=> ?_)
  ·rw [if_pos e2] at h;refine Cells.lit rfl rfl<|Kid.lit rfl rfl<|Len.map<|Br.prop (λe3=> ?_) (λe3=> ?_)
   ·rw [if_pos e3,Option.bind_assoc] at h;refine Cells.lit rfl rfl<|Len.holeW<|BslQ.o Ae [(-1:Int),(q38_7.length:Int),(3:Int)] (by exact λ_=>⟨rfl,rfl⟩) (by rfl)<|FrzQ.d (.sl false 1 ([(-1:Int),(q38_7.length:Int),(3:Int)].map Ae)) (by first | (simp only [Ak,Ac];done) | (simp [Ak,V.fz,Ab,Ac,slr];done) | (simp [Ak,V.fz,fzL,Ab,slr];done))<|LendP.io Ae (rP true (Al false)) (by rfl) (λ_=>rfl) (λ_=>⟨rfl,rfl⟩) (λ_=>rfl) h (λr h=>Bc h) (λr49 u50 h=> ?_)
    refine Kid.lit rfl rfl<|Len.map<|⟨⟨by omega,by omega⟩,?_⟩
    refine Kid.lit rfl rfl<|SetKids.one (f:=Ae) (c:=0) (by exact λ_=>⟨rfl,rfl⟩) r49 rfl (by omega)<|Kid.lit rfl rfl<|SetKids.lit rfl<|⟨rfl,?_⟩
    refine Kid.lit rfl rfl<|Kid.lit rfl rfl<|SetKids.lit rfl<|FrzQ.d (.sl false 1 (((nth q38_7 r42.toNat).Args.set 0 r49).map Ae)) (by first | (simp only [Ak,Ac];done) | (simp [Ak,V.fz,Ab,Ac,slr];done) | (simp [Ak,V.fz,fzL,Ab,slr];done))<|Kid.lit rfl rfl<|SetKids.lit rfl<|Kid.holeW (f:=Af true) (m:=2) (by exact λ_=>⟨rfl,rfl⟩) (by first | omega | (simp [Au] at * <;> omega)) rfl<|Kid.holeW (f:=Af true) (m:=2) (by exact λ_=>⟨rfl,rfl⟩) (by first | omega | (simp [Au] at * <;> omega)) rfl<|SetKids.reholeW (f:=Af true) (m:=2) (by exact λ_=>⟨rfl,rfl⟩) (v':= .agg [Ae (nth q38_7 r42.toNat).Op,.sl false 1 (((nth q38_7 r42.toNat).Args.set 0 r49).map Ae)]) (by first | omega | (simp [Au] at * <;> omega)) rfl rfl (by decide) ?_
    simp only [Option.bind_some] at h;refine FrzQ.d (.sl true 2 ((q38_7.set r42.toNat ({ Op:=(nth q38_7 r42.toNat).Op,Args:=(nth q38_7 r42.toNat).Args.set 0 r49 }:SCloneStep)).map (Af false))) (Awk _ _ _ _ (by rfl))<|Len.map<|LendP.io Ae (rP true (Al false)) (by rfl) (λ_=>rfl) (λ_=>⟨rfl,rfl⟩) (λ_=>rfl) h (λr h=>At h) (λr52 u53 h=> ?_)
    refine Cells.lit rfl rfl<|Len.map<|Ask.o h λp54 h=>SetKids.wide0 (f:=Af false) (m:=2) (by exact λ_=>⟨rfl,rfl⟩) ({ Op:=(nth q38_7 r42.toNat).Op,Args:=(nth q38_7 r42.toNat).Args.set 0 r49 }:SCloneStep) (by first | omega | (simp [Au] at * <;> omega)) rfl (by decide) ?_
    cases h;exact ⟨(by first | rfl | simp only [Ai,Ac,slr] | simp [Ai,Aa,V.fz,fzL,V.up,upL,Ab,Ac,Ad,slr]),(by rfl)⟩
   rw [if_neg e3] at h;refine ⟨rfl,?_⟩;refine Kid.lit rfl rfl<|Kid.lit rfl rfl<|SetKids.lit rfl<|FrzQ.d (.sl false 1 ((nth q38_7 r42.toNat).Args.map Ae)) (by first | (simp only [Ak,Ac,slr];done) | (simp [Ak,V.fz,Ab,Ac,slr];done) | (simp [Ak,V.fz,fzL,Ab,slr];done))<|Kid.lit rfl rfl<|SetKids.lit rfl<|Kid.holeW (f:=Af true) (m:=2) (by exact λ_=>⟨rfl,rfl⟩) (by first | omega | (simp [Au] at * <;> omega)) rfl<|Kid.holeW (f:=Af true) (m:=2) (by exact λ_=>⟨rfl,rfl⟩) (by first | omega | (simp [Au] at * <;> omega)) rfl<|SetKids.reholeW (f:=Af true) (m:=2) (by exact λ_=>⟨rfl,rfl⟩) (v':= .agg [Ae (nth q38_7 r42.toNat).Op,.sl false 1 ((nth q38_7 r42.toNat).Args.map Ae)]) (by first | omega | (simp [Au] at * <;> omega)) rfl rfl (by decide) ?_
   simp only [Option.bind_some] at h;refine FrzQ.d (.sl true 2 (q38_7.map (Af false))) ((Awk _ _ (nth q38_7 r42.toNat) _ (by rfl)).trans (by rw [Adr (by omega)]))<|Len.map<|LendP.io Ae (rP true (Al false)) (by rfl) (λ_=>rfl) (λ_=>⟨rfl,rfl⟩) (λ_=>rfl) h (λr h=>At h) (λr52 u53 h=> ?_)
   refine Cells.lit rfl rfl<|Len.map<|Ask.o h λp54 h=>SetKids.wide0 (f:=Af false) (m:=2) (by exact λ_=>⟨rfl,rfl⟩) (nth q38_7 r42.toNat) (by first | omega | (simp [Au] at * <;> omega)) rfl (by decide) ?_
   cases h;exact ⟨(by first | rfl | simp only [Ai,Ac,slr] | simp [Ai,Aa,V.fz,fzL,V.up,upL,Ab,Ac,Ad,slr]),(by rfl)⟩
  rw [if_neg e2] at h;refine ⟨rfl,?_⟩;refine Kid.lit rfl rfl<|Kid.lit rfl rfl<|SetKids.lit rfl<|FrzQ.d (.sl false 1 ((nth q38_7 r42.toNat).Args.map Ae)) (by first | (simp only [Ak,Ac,slr];done) | (simp [Ak,V.fz,Ab,Ac,slr];done) | (simp [Ak,V.fz,fzL,Ab,slr];done))<|Kid.lit rfl rfl<|SetKids.lit rfl<|Kid.holeW (f:=Af true) (m:=2) (by exact λ_=>⟨rfl,rfl⟩) (by first | omega | (simp [Au] at * <;> omega)) rfl<|Kid.holeW (f:=Af true) (m:=2) (by exact λ_=>⟨rfl,rfl⟩) (by first | omega | (simp [Au] at * <;> omega)) rfl<|SetKids.reholeW (f:=Af true) (m:=2) (by exact λ_=>⟨rfl,rfl⟩) (v':= .agg [Ae (nth q38_7 r42.toNat).Op,.sl false 1 ((nth q38_7 r42.toNat).Args.map Ae)]) (by first | omega | (simp [Au] at * <;> omega)) rfl rfl (by decide) ?_
  simp only [Option.bind_some] at h;refine FrzQ.d (.sl true 2 (q38_7.map (Af false))) ((Awk _ _ (nth q38_7 r42.toNat) _ (by rfl)).trans (by rw [Adr (by omega)]))<|Len.map<|LendP.io Ae (rP true (Al false)) (by rfl) (λ_=>rfl) (λ_=>⟨rfl,rfl⟩) (λ_=>rfl) h (λr h=>At h) (λr52 u53 h=> ?_)
  refine Cells.lit rfl rfl<|Len.map<|Ask.o h λp54 h=>SetKids.wide0 (f:=Af false) (m:=2) (by exact λ_=>⟨rfl,rfl⟩) (nth q38_7 r42.toNat) (by first | omega | (simp [Au] at * <;> omega)) rfl (by decide) ?_
  cases h;exact ⟨(by first | rfl | simp only [Ai,Ac,slr] | simp [Ai,Aa,V.fz,fzL,V.up,upL,Ab,Ac,Ad,slr]),(by rfl)⟩
 cases h;exact ⟨(by first | rfl | simp only [Ai,Ac,slr] | simp [Ai,Aa,V.fz,fzL,V.up,upL,Ab,Ac,Ad,slr]),(by rfl)⟩
end Go.Proofs.Ytaalgpkajkogkaa.Ax
