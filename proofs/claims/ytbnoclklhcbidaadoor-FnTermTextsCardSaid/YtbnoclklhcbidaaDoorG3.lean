/-
 What the functions compute, as functions on plain data, and that the program does compute it; written by program.
-/
import Derived.Test.YtbnoclklhcbidaaDoorCode
import Derived.Test.YtbnoclklhcbidaaDoorBu2
import Derived.Test.YtbnoclklhcbidaaDoorG1
import Derived.Test.YtbnoclklhcbidaaDoorG2
namespace Go.Proofs.YtbnoclklhcbidaaDoor.Ax
open Go
set_option maxRecDepth 100000
set_option maxHeartbeats 4000000
abbrev rNe (xs:List Int):V:=match xs with
 | []=> .nl 1
 | x::r=> .sl true 1 ((x::r).map Af)
theorem Aid:One rNe:=fun x=>by cases x<;>exact ⟨rfl,rfl⟩
theorem Ah1 {xs:List Int} (h:xs≠[]):rNe xs = .sl true 1 (xs.map Af):=by
 cases xs with
 | nil=>exact absurd rfl h
 | cons _ _=>rfl
theorem Ahj {r c m:Nat} {p:List Nat} {u:V} {K:A→Prop} (h:u = .nl m) (hk:K (.val (.nl m))):K3 (mkA false (Fg r p c [u])) K:=by
 subst h;exact hk
theorem Kid.ne {m:Nat} {xs:List (List Int)} {c:Nat} {K:V→Prop} (hc:c<xs.length) (hx:nth xs c≠[]) (hk:K (.sl true 1 ((nth xs c).map Af))):Kid (.sl true m (xs.map rNe)) c K:=
 Kid.one Aid hc (by rw [Ah1 hx];exact hk)
noncomputable def B5 (a0:SAlgebra) (pattern0:List Int) (t0:List Int):(Int×Int×List (List Int))→Option ((Int×Int×List (List Int)) ⊕ (Unit ⊕ (Int×List (List Int)))):=fun (x16,x9,x8)=>
 if x16<(↑pattern0.length:Int) then
 ask ((0:Int)≤x16∧x16<(↑pattern0.length:Int)) <|
 if x9≥(↑t0.length:Int) then
 some (.inr (.inl ()))
 else
 if nth pattern0 x16.toNat<(0:Int) then
 ask ((0:Int)≤x9∧x9<(↑t0.length:Int)) <|
 if nth t0 x9.toNat≠nth pattern0 x16.toNat then
 some (.inr (.inl ()))
 else
 ask (InI (x9+(1:Int))) <|
 ask (InI (x16+(1:Int))) <|
 some (.inl (x16+(1:Int),x9+(1:Int),x8))
 else
 (Gq (a0) (t0) (x9)).bind fun r9=>
 ask ((0:Int)≤nth pattern0 x16.toNat∧nth pattern0 x16.toNat<(↑x8.length:Int)) <|
 if nth x8 (nth pattern0 x16.toNat).toNat=[] then
 ask (0≤x9∧x9≤r9∧r9≤((t0.length:Nat):Int)) <|
 (J9 (List.take (r9.toNat-x9.toNat) (List.drop x9.toNat t0))).bind fun r12=>
 ask ((0:Int)≤nth pattern0 x16.toNat∧nth pattern0 x16.toNat<(↑x8.length:Int)) <|
 ask (r12≠[]) <|
 ask (InI (x16+(1:Int))) <|
 some (.inl (x16+(1:Int),r9,x8.set (nth pattern0 x16.toNat).toNat r12))
 else
 ask ((0:Int)≤nth pattern0 x16.toNat∧nth pattern0 x16.toNat<(↑x8.length:Int)) <|
 ask (0≤x9∧x9≤r9∧r9≤((t0.length:Nat):Int)) <|
 (G0 (nth x8 (nth pattern0 x16.toNat).toNat) (List.take (r9.toNat-x9.toNat) (List.drop x9.toNat t0))).bind fun r13=>
 if (r13)=true then
 ask (InI (x16+(1:Int))) <|
 some (.inl (x16+(1:Int),r9,x8))
 else
 some (.inr (.inl ()))
 else
 some (.inr (.inr (x9,x8)))
def Ij (a0:SAlgebra) (pattern0:List Int) (t0:List Int):(Int×Int×List (List Int))→St:=fun s=>[(16,A.val (Af s.1)),(15,A.val (Af ((↑pattern0.length:Int)))),(14,A.val ((slr false 1 Af) (pattern0))),(9,A.val (Af s.2.1)),(8,A.val ((slr true 1 rNe) s.2.2)),(3,A.val ((rP true (Ag false)) (a0))),(2,A.val ((slr false 1 Af) (t0)))]
def Mo (_a0:SAlgebra) (_pattern0:List Int) (t0:List Int):(Unit ⊕ (Int×List (List Int)))→Tgt
 | (.inl _)=>(Ex.ret,[7,6],[(7,A.val (V.bool (false))),(6,A.val ((slr true 1 rNe) (A4 (List Int))))])
 | (.inr s)=>((Ex.exit 0),[9,8,2],[(9,A.val (Af s.1)),(8,A.val ((slr true 1 rNe) s.2)),(2,A.val ((slr false 1 Af) (t0)))])
theorem Ux {a0:SAlgebra} {pattern0:List Int} {t0:List Int} (s:(Int×Int×List (List Int))) (o:(Int×Int×List (List Int)) ⊕ (Unit ⊕ (Int×List (List Int)))) (h:B5 a0 pattern0 t0 s=some o):vc Tryd.prog Ml (Gg [16,15,14,9,8,3,2] (Ij a0 pattern0 t0) (Mo a0 pattern0 t0) o) (Ij a0 pattern0 t0 s):=by
 obtain ⟨x16,x9,x8⟩:=s
 unfold B5 at h
 try dsimp only at h
 conv=>whnf
 refine Br.od h (fun p1 h=> ?_) (fun p1 h=> ?_)
 ·conv=>whnf
  refine Len.map ?_
  conv=>whnf
  refine Ask.o h fun p2 h=> ?_
  conv=>whnf
  refine Elem.o (by omega) ?_
  conv=>whnf
  refine Len.map ?_
  conv=>whnf
  refine Br.od h (fun p3 h=> ?_) (fun p3 h=> ?_)
  ·conv=>whnf
   cases h;exact ⟨rfl,rfl⟩
  conv=>whnf
  refine Br.od h (fun p4 h=> ?_) (fun p4 h=> ?_)
  ·conv=>whnf
   refine Len.map ?_
   conv=>whnf
   refine Ask.o h fun p5 h=> ?_
   conv=>whnf
   refine Elem.o (by omega) ?_
   conv=>whnf
   refine Br.on h (fun p6 h=> ?_) (fun p6 h=> ?_)
   ·conv=>whnf
    cases h;exact ⟨rfl,rfl⟩
   conv=>whnf
   refine Ask.o h fun p7 h=> ?_
   conv=>whnf
   refine Ask.o h fun p8 h=> ?_
   conv=>whnf
   cases h;exact ⟨rfl,rfl⟩
  conv=>whnf
  refine Cells.lit rfl rfl ?_
  conv=>whnf
  refine CallQ.o Af (by rfl) h (fun r h=>Xh h) (fun r9 h=> ?_)
  conv=>whnf
  refine Len.map ?_
  conv=>whnf
  refine Ask.o h fun p10 h=> ?_
  conv=>whnf
  refine Cells.one Aid (by first | omega | (simp [A8] at *;omega)) ?_
  by_cases hx:nth x8 (nth pattern0 x16.toNat).toNat=[]
  ·rw [if_pos hx] at h
   refine Ahj (m:=1) (show rNe (nth x8 (nth pattern0 x16.toNat).toNat) = .nl 1 by rw [hx]) ?_
   conv=>whnf
   refine Br.yes ?_
   conv=>whnf
   refine SlcQ.o Af h fun h=> ?_
   conv=>whnf
   refine CallQ.o (slr true 1 Af) (by rfl) h (fun r h=>Ai9 h) (fun r12 h=> ?_)
   conv=>whnf
   refine Len.map ?_
   conv=>whnf
   refine Ask.o h fun p11 h=> ?_
   conv=>whnf
   obtain ⟨p12,h⟩:=Fd.1 h
   refine SetKids.one Aid r12 (by rw [Ah1 p12];rfl) (by first | omega | (simp [A8] at *;omega)) ?_
   conv=>whnf
   refine Ask.o h fun p13 h=> ?_
   conv=>whnf
   cases h;exact ⟨rfl,rfl⟩
  rw [if_neg hx] at h
  have e:=Ah1 hx
  refine Wt (show V.hasOwn (rNe (nth x8 (nth pattern0 x16.toNat).toNat))=true by rw [e];rfl) ?_
  conv=>whnf
  refine Kid.ne (by first | omega | (simp [A8] at *;omega)) hx ?_
  conv=>whnf
  refine Len.map ?_
  refine ⟨by have:=List.length_pos_iff.2 hx;first | omega | (simp [A8] at *;omega),?_⟩
  conv=>whnf
  refine Br.no ?_
  conv=>whnf
  refine Len.map ?_
  conv=>whnf
  refine Ask.o h fun p14 h=> ?_
  conv=>whnf
  refine Cells.one Aid (by first | omega | (simp [A8] at *;omega)) ?_
  refine Wt (show V.hasOwn (rNe (nth x8 (nth pattern0 x16.toNat).toNat))=true by rw [e];rfl) ?_
  conv=>whnf
  refine SlcQ.o Af h fun h=> ?_
  conv=>whnf
  refine Kid.ne (by first | omega | (simp [A8] at *;omega)) hx ?_
  conv=>whnf
  refine CallQ.rd V.bool (by first | rfl | simp [Aa,V.fz,Ab,slr]) (fun _=>rfl) h (fun r h=>Ab4 h) (fun r13 h=> ?_)
  conv=>whnf
  refine Br.flip ?_
  conv=>whnf
  refine Br.ob h (fun p15 h=> ?_) (fun p15 h=> ?_)
  ·conv=>whnf
   refine Ask.o h fun p16 h=> ?_
   conv=>whnf
   cases h;exact ⟨rfl,rfl⟩
  conv=>whnf
  cases h;exact ⟨rfl,rfl⟩
 conv=>whnf
 cases h;exact ⟨rfl,rfl⟩
noncomputable def F3 (a0:SAlgebra) (pattern0:(List Int)) (t0:(List Int)):Option ((List (List Int))×Bool):=
 (A7 (B5 a0 pattern0 t0) ((0:Int),(0:Int),List.replicate (Int.toNat (6:Int)) (A4 Int))).bind fun t=>match t with
 | (.inl _)=>(some (A4 (List Int),false))
 | (.inr (q9,q8))=>(some (q8,q9==(↑t0.length:Int)))
theorem Aao {a0:SAlgebra} {pattern0:(List Int)} {t0:(List Int)} {v:((List (List Int))×Bool)} (h:F3 a0 pattern0 t0=some v):Ret Tryd.prog Ku [(Ag false) a0,(slr false 1 Af) pattern0,(slr false 1 Af) t0] ((fun r=>V.tup [(slr true 1 rNe) r.1,V.bool r.2]) v):=by
 refine Bp Aah (Nat.le_of_ble_eq_true rfl) ?_
 unfold F3 at h
 conv=>whnf
 refine Ask.mk (by decide) ?_
 conv=>whnf
 refine MkQ.o rNe (A4 Int) rfl ?_
 conv=>whnf
 refine Len.map ?_
 conv=>whnf
 refine LoopQ.o [16,15,14,9,8,3,2] (Ij a0 pattern0 t0) (Mo a0 pattern0 t0) h (fun s o h=>Ux s o h) (by first | rfl | simp [restrict,look,Aa,V.fz,fzL,V.up,upL,Ab,Ac,Ad,slr]) (by rintro (_ | _)<;>rfl) ?_
 rintro (⟨⟩ | ⟨q9,q8⟩) h
 ·try dsimp only at h
  conv=>whnf
  cases h;rfl
 try dsimp only at h
 conv=>whnf
 refine Len.map ?_
 conv=>whnf
 cases h;rfl
noncomputable def Er (s0:(List Int)) (t0:(List Int)):Option Int:=
 if (↑s0.length:Int)<(↑t0.length:Int) then
 some (-1:Int)
 else
 if (↑s0.length:Int)>(↑t0.length:Int) then
 some (1:Int)
 else
 (Ej (s0) (t0)).bind fun r3=>
 some r3
theorem Vw {s0:(List Int)} {t0:(List Int)} {v:Int} (h:Er s0 t0=some v):Ret Tryd.prog Ig [(slr false 1 Af) s0,(slr false 1 Af) t0] (Af v):=by
 refine Bp Vq (Nat.le_of_ble_eq_true rfl) ?_
 unfold Er at h
 conv=>whnf
 refine Len.map ?_
 conv=>whnf
 refine Len.map ?_
 conv=>whnf
 refine Br.od h (fun p1 h=> ?_) (fun p1 h=> ?_)
 ·conv=>whnf
  cases h;exact (by first | rfl | simp only [Ah,Aa,V.fz,fzL,V.up,upL,Ab,Ac,Ad,slr] | simp [Ah,Aa,V.fz,fzL,V.up,upL,Ab,Ac,Ad,slr])
 conv=>whnf
 refine Len.map ?_
 conv=>whnf
 refine Len.map ?_
 conv=>whnf
 refine Br.od h (fun p2 h=> ?_) (fun p2 h=> ?_)
 ·conv=>whnf
  cases h;exact (by first | rfl | simp only [Ah,Aa,V.fz,fzL,V.up,upL,Ab,Ac,Ad,slr] | simp [Ah,Aa,V.fz,fzL,V.up,upL,Ab,Ac,Ad,slr])
 conv=>whnf
 refine CallQ.o Af (by first | rfl | simp only [Aa,V.fz,fzL,V.up,upL,Ab,Ac,Ad,slr,List.cons_append,List.nil_append] | simp [Aa,V.fz,fzL,V.up,upL,Ab,Ac,Ad,slr]) h (fun r h=>Ug h) (fun r3 h=> ?_)
 conv=>whnf
 cases h;exact (by first | rfl | simp only [Ah,Aa,V.fz,fzL,V.up,upL,Ab,Ac,Ad,slr] | simp [Ah,Aa,V.fz,fzL,V.up,upL,Ab,Ac,Ad,slr])
noncomputable def Fj (s0:(List Int)) (t0:(List Int)):Option Bool:=
 if (↑s0.length:Int)≠(↑t0.length:Int) then
 some (decide ((↑s0.length:Int)<(↑t0.length:Int)))
 else
 (Im (s0) (t0)).bind fun r2=>
 some r2
theorem R0 {s0:(List Int)} {t0:(List Int)} {v:Bool} (h:Fj s0 t0=some v):Ret Tryd.prog I0 [(slr false 1 Af) s0,(slr false 1 Af) t0] (V.bool v):=by
 refine Bp Abo (Nat.le_of_ble_eq_true rfl) ?_
 unfold Fj at h
 conv=>whnf
 refine Len.map ?_
 conv=>whnf
 refine Len.map ?_
 conv=>whnf
 refine Br.on h (fun p1 h=> ?_) (fun p1 h=> ?_)
 ·conv=>whnf
  refine Len.map ?_
  conv=>whnf
  refine Len.map ?_
  conv=>whnf
  cases h;exact (by first | rfl | simp only [Ah,Aa,V.fz,fzL,V.up,upL,Ab,Ac,Ad,slr] | simp [Ah,Aa,V.fz,fzL,V.up,upL,Ab,Ac,Ad,slr])
 conv=>whnf
 refine CallQ.o V.bool (by first | rfl | simp only [Aa,V.fz,fzL,V.up,upL,Ab,Ac,Ad,slr,List.cons_append,List.nil_append] | simp [Aa,V.fz,fzL,V.up,upL,Ab,Ac,Ad,slr]) h (fun r h=>Af3 h) (fun r2 h=> ?_)
 conv=>whnf
 cases h;exact (by first | rfl | simp only [Ah,Aa,V.fz,fzL,V.up,upL,Ab,Ac,Ad,slr] | simp [Ah,Aa,V.fz,fzL,V.up,upL,Ab,Ac,Ad,slr])
noncomputable def Dq (self:ByteArray→SAlgebra→List Int→Int→Option (Int×ByteArray)) (a0:SAlgebra) (t0:List Int) (at0:Int):(Int×Int×ByteArray)→Option ((Int×Int×ByteArray) ⊕ (Int×ByteArray)):=fun (x10,x3,x66)=>
 ask (InI ((-1:Int)-nth t0 at0.toNat)) <|
 ask ((0:Int)≤(-1:Int)-nth t0 at0.toNat∧(-1:Int)-nth t0 at0.toNat<(↑a0.Ops.length:Int)) <|
 if x10<(nth a0.Ops ((-1:Int)-nth t0 at0.toNat).toNat).Arity then
 ((if x10=(0:Int) then
 (Aw (x66) ((ByteArray.mk #[40]))).bind fun (_r17,u18)=>
 some u18
 else
 (Aw (x66) ((ByteArray.mk #[44]))).bind fun (_r19,u20)=>
 some u20:Option ByteArray)).bind fun q21_66=>
 (self (q21_66) (a0) (t0) (x3)).bind fun (r22,u23)=>
 ask (InI ((-1:Int)-nth t0 at0.toNat)) <|
 ask ((0:Int)≤(-1:Int)-nth t0 at0.toNat∧(-1:Int)-nth t0 at0.toNat<(↑a0.Ops.length:Int)) <|
 ask (InI ((nth a0.Ops ((-1:Int)-nth t0 at0.toNat).toNat).Arity-(1:Int))) <|
 if x10=(nth a0.Ops ((-1:Int)-nth t0 at0.toNat).toNat).Arity-(1:Int) then
 (Aw (u23) ((ByteArray.mk #[41]))).bind fun (_r28,u29)=>
 ask (InI (x10+(1:Int))) <|
 some (.inl (x10+(1:Int),r22,u29))
 else
 ask (InI (x10+(1:Int))) <|
 some (.inl (x10+(1:Int),r22,u23))
 else
 some (.inr (x3,x66))
def H7 (a0:SAlgebra) (t0:List Int) (at0:Int):(Int×Int×ByteArray)→St:=fun s=>[(10,A.val (Af s.1)),(3,A.val (Af s.2.1)),(9,A.val (Af (nth t0 at0.toNat))),(5,A.val ((rP true (Ag false)) (a0))),(0,A.ref 66 []),(66,A.val (rB s.2.2)),(2,A.val ((slr false 1 Af) (t0)))]
def Mj (_a0:SAlgebra) (_t0:List Int) (_at0:Int):(Int×ByteArray)→Tgt
 | s=>((Ex.exit 0),[3,66],[(3,A.val (Af s.1)),(66,A.val (rB s.2))])
theorem Um {self:ByteArray→SAlgebra→List Int→Int→Option (Int×ByteArray)} {a0:SAlgebra} {t0:List Int} {at0:Int} (hself : ∀ {w_0 w_1 w_2 w_3 v},self w_0 w_1 w_2 w_3=some v→Iq Tryd.prog C6 [rB w_0,(Ag false) w_1,(slr false 1 Af) w_2,Af w_3] (Af v.1) 0 (rB v.2)) (s:(Int×Int×ByteArray)) (o:(Int×Int×ByteArray) ⊕ (Int×ByteArray)) (h:Dq self a0 t0 at0 s=some o):vc Tryd.prog Mr (Gg [10,3,9,5,0,66,2] (H7 a0 t0 at0) (Mj a0 t0 at0) o) (H7 a0 t0 at0 s):=by
 obtain ⟨x10,x3,x66⟩:=s
 unfold Dq at h
 try dsimp only at h
 conv=>whnf
 refine Cells.lit rfl rfl ?_
 conv=>whnf
 refine Ask.o h fun p13 h=> ?_
 conv=>whnf
 refine Len.map ?_
 conv=>whnf
 refine Ask.o h fun p14 h=> ?_
 conv=>whnf
 refine Elem.o (by first | omega | (simp [A8] at * <;> omega)) ?_
 conv=>whnf
 refine Br.od h (fun p15 h=> ?_) (fun p15 h=> ?_)
 ·conv=>whnf
  refine CutQ.o (fun t:ByteArray=>match t with | s=>(Ex.normal,[10,3,9,5,0,66,2],[(10,A.val (Af (x10))),(3,A.val (Af (x3))),(9,A.val (Af (nth t0 at0.toNat))),(5,A.val ((rP true (Ag false)) (a0))),(0,A.ref 66 []),(66,A.val (rB s)),(2,A.val ((slr false 1 Af) (t0)))])) h ?_ ?_
  ·intro t h
   conv=>whnf
   refine Br.oe h (fun p16 h=> ?_) (fun p16 h=> ?_)
   ·conv=>whnf
    refine CallQ.io rDd rB (by first | rfl | simp only [Aa,V.fz,fzL,V.up,upL,Ab,Ac,Ad,slr,List.cons_append,List.nil_append] | simp [Aa,V.fz,fzL,V.up,upL,Ab,Ac,Ad,slr]) rfl (fun _=>rfl) (fun _=>⟨rfl,rfl⟩) rfl h (fun r h=>Cc h) (fun r17 u18 h=> ?_)
    conv=>whnf
    cases h;exact ⟨rfl,rfl⟩
   conv=>whnf
   refine CallQ.io rDd rB (by first | rfl | simp only [Aa,V.fz,fzL,V.up,upL,Ab,Ac,Ad,slr,List.cons_append,List.nil_append] | simp [Aa,V.fz,fzL,V.up,upL,Ab,Ac,Ad,slr]) rfl (fun _=>rfl) (fun _=>⟨rfl,rfl⟩) rfl h (fun r h=>Cc h) (fun r19 u20 h=> ?_)
   conv=>whnf
   cases h;exact ⟨rfl,rfl⟩
  rintro q21_66 h
  try dsimp only at h
  conv=>whnf
  refine Cells.lit rfl rfl ?_
  conv=>whnf
  refine CallQ.io Af rB (by first | rfl | simp only [Aa,V.fz,fzL,V.up,upL,Ab,Ac,Ad,slr,List.cons_append,List.nil_append] | simp [Aa,V.fz,fzL,V.up,upL,Ab,Ac,Ad,slr]) rfl (fun _=>rfl) (fun _=>⟨rfl,rfl⟩) rfl h (fun r h=>hself h) (fun r22 u23 h=> ?_)
  conv=>whnf
  refine Cells.lit rfl rfl ?_
  conv=>whnf
  refine Ask.o h fun p24 h=> ?_
  conv=>whnf
  refine Len.map ?_
  conv=>whnf
  refine Ask.o h fun p25 h=> ?_
  conv=>whnf
  refine Elem.o (by first | omega | (simp [A8] at * <;> omega)) ?_
  conv=>whnf
  refine Ask.o h fun p26 h=> ?_
  conv=>whnf
  refine Br.oe h (fun p27 h=> ?_) (fun p27 h=> ?_)
  ·conv=>whnf
   refine CallQ.io rDd rB (by first | rfl | simp only [Aa,V.fz,fzL,V.up,upL,Ab,Ac,Ad,slr,List.cons_append,List.nil_append] | simp [Aa,V.fz,fzL,V.up,upL,Ab,Ac,Ad,slr]) rfl (fun _=>rfl) (fun _=>⟨rfl,rfl⟩) rfl h (fun r h=>Cc h) (fun r28 u29 h=> ?_)
   conv=>whnf
   refine Ask.o h fun p30 h=> ?_
   conv=>whnf
   cases h;exact ⟨rfl,rfl⟩
  conv=>whnf
  refine Ask.o h fun p31 h=> ?_
  conv=>whnf
  cases h;exact ⟨rfl,rfl⟩
 conv=>whnf
 cases h;exact ⟨rfl,rfl⟩
noncomputable def Cs (self:ByteArray→SAlgebra→(List Int)→Int→Option (Int×ByteArray)) (b0:ByteArray) (a0:SAlgebra) (t0:(List Int)) (at0:Int):Option (Int×ByteArray):=
 ask ((0:Int)≤at0∧at0<(↑t0.length:Int)) <|
 ask (InI (at0+(1:Int))) <|
 if nth t0 at0.toNat≥(0:Int) then
 (He (nth t0 at0.toNat)).bind fun r4=>
 ask ((ByteArray.mk #[120]).size+r4.size≤(9223372036854775807:Nat)) <|
 (Aw (b0) ((ByteArray.mk #[120])++r4)).bind fun (_r6,u7)=>
 some (at0+(1:Int),u7)
 else
 ask (InI ((-1:Int)-nth t0 at0.toNat)) <|
 (He ((-1:Int)-nth t0 at0.toNat)).bind fun r9=>
 ask ((ByteArray.mk #[102]).size+r9.size≤(9223372036854775807:Nat)) <|
 (Aw (b0) ((ByteArray.mk #[102])++r9)).bind fun (_r11,u12)=>
 (A7 (Dq self a0 t0 at0) ((0:Int),at0+(1:Int),u12)).bind fun (q32_3,q32_66)=>
 some (q32_3,q32_66)
noncomputable def B8:Nat→ByteArray→SAlgebra→(List Int)→Int→Option (Int×ByteArray)
 | 0=>fun _ _ _ _=>none
 | n+1=>Cs (B8 n)
theorem Wf {self:ByteArray→SAlgebra→(List Int)→Int→Option (Int×ByteArray)} (hself : ∀ {w_0 w_1 w_2 w_3 v},self w_0 w_1 w_2 w_3=some v→Iq Tryd.prog C6 [rB w_0,(Ag false) w_1,(slr false 1 Af) w_2,Af w_3] (Af v.1) 0 (rB v.2)) {b0:ByteArray} {a0:SAlgebra} {t0:(List Int)} {at0:Int} {v:(Int×ByteArray)} (h:Cs self b0 a0 t0 at0=some v):Iq Tryd.prog C6 [rB b0,(Ag false) a0,(slr false 1 Af) t0,Af at0] (Af v.1) 0 (rB v.2):=by
 refine M5 Z1 (Nat.le_of_ble_eq_true rfl) ?_
 unfold Cs at h
 conv=>whnf
 refine Len.map ?_
 conv=>whnf
 refine Ask.o h fun p1 h=> ?_
 conv=>whnf
 refine Elem.o (by first | omega | (simp [A8] at * <;> omega)) ?_
 conv=>whnf
 refine Ask.o h fun p2 h=> ?_
 conv=>whnf
 refine Br.od h (fun p3 h=> ?_) (fun p3 h=> ?_)
 ·conv=>whnf
  refine CallQ.o V.str (by first | rfl | simp only [Aa,V.fz,fzL,V.up,upL,Ab,Ac,Ad,slr,List.cons_append,List.nil_append] | simp [Aa,V.fz,fzL,V.up,upL,Ab,Ac,Ad,slr]) h (fun r h=>S3 h) (fun r4 h=> ?_)
  conv=>whnf
  refine Ask.o h fun p5 h=> ?_
  conv=>whnf
  refine CallQ.io rDd rB (by first | rfl | simp only [Aa,V.fz,fzL,V.up,upL,Ab,Ac,Ad,slr,List.cons_append,List.nil_append] | simp [Aa,V.fz,fzL,V.up,upL,Ab,Ac,Ad,slr]) rfl (fun _=>rfl) (fun _=>⟨rfl,rfl⟩) rfl h (fun r h=>Cc h) (fun r6 u7 h=> ?_)
  conv=>whnf
  cases h;exact ⟨(by first | rfl | simp only [Ah,Aa,V.fz,fzL,V.up,upL,Ab,Ac,Ad,slr] | simp [Ah,Aa,V.fz,fzL,V.up,upL,Ab,Ac,Ad,slr]),(by first | rfl | simp only [Ah,Aa,V.fz,fzL,V.up,upL,Ab,Ac,Ad,slr] | simp [Ah,Aa,V.fz,fzL,V.up,upL,Ab,Ac,Ad,slr])⟩
 conv=>whnf
 refine Ask.o h fun p8 h=> ?_
 conv=>whnf
 refine CallQ.o V.str (by first | rfl | simp only [Aa,V.fz,fzL,V.up,upL,Ab,Ac,Ad,slr,List.cons_append,List.nil_append] | simp [Aa,V.fz,fzL,V.up,upL,Ab,Ac,Ad,slr]) h (fun r h=>S3 h) (fun r9 h=> ?_)
 conv=>whnf
 refine Ask.o h fun p10 h=> ?_
 conv=>whnf
 refine CallQ.io rDd rB (by first | rfl | simp only [Aa,V.fz,fzL,V.up,upL,Ab,Ac,Ad,slr,List.cons_append,List.nil_append] | simp [Aa,V.fz,fzL,V.up,upL,Ab,Ac,Ad,slr]) rfl (fun _=>rfl) (fun _=>⟨rfl,rfl⟩) rfl h (fun r h=>Cc h) (fun r11 u12 h=> ?_)
 conv=>whnf
 refine LoopQ.o [10,3,9,5,0,66,2] (H7 a0 t0 at0) (Mj a0 t0 at0) h (fun s o h=>Um hself s o h) (by first | rfl | simp [restrict,look,Aa,V.fz,fzL,V.up,upL,Ab,Ac,Ad,slr]) (fun _=>rfl) ?_
 rintro ⟨q32_3,q32_66⟩ h
 try dsimp only at h
 conv=>whnf
 cases h;exact ⟨(by first | rfl | simp only [Ah,Aa,V.fz,fzL,V.up,upL,Ab,Ac,Ad,slr] | simp [Ah,Aa,V.fz,fzL,V.up,upL,Ab,Ac,Ad,slr]),(by first | rfl | simp only [Ah,Aa,V.fz,fzL,V.up,upL,Ab,Ac,Ad,slr] | simp [Ah,Aa,V.fz,fzL,V.up,upL,Ab,Ac,Ad,slr])⟩
theorem Nj : ∀(n:Nat) {b0:ByteArray} {a0:SAlgebra} {t0:(List Int)} {at0:Int} {v:(Int×ByteArray)},B8 n b0 a0 t0 at0=some v→Iq Tryd.prog C6 [rB b0,(Ag false) a0,(slr false 1 Af) t0,Af at0] (Af v.1) 0 (rB v.2)
 | 0,_,_,_,_,_,h=>by cases h
 | n+1,_,_,_,_,_,h=>Wf (fun h=>Nj n h) h
theorem Zn {b0:ByteArray} {a0:SAlgebra} {t0:(List Int)} {at0:Int} {v:(Int×ByteArray)} (h:(Li fun n=>B8 n b0 a0 t0 at0)=some v):Iq Tryd.prog C6 [rB b0,(Ag false) a0,(slr false 1 Af) t0,Af at0] (Af v.1) 0 (rB v.2):=by
 obtain ⟨n,hn⟩:=Ts h
 exact Nj n hn
noncomputable def L2 (f0:SOp) (n0:Int):Option Bool:=
 if f0.Arity≥(0:Int) then
 if f0.Arity≤(3:Int) then
 (Hy (n0) (f0.Arity)).bind fun r3=>
 if (↑f0.Table.length:Int)=r3 then
 (Il (f0.Table) (n0)).bind fun r5=>
 some r5
 else
 some false
 else
 some false
 else
 some false
theorem Ak3 {f0:SOp} {n0:Int} {v:Bool} (h:L2 f0 n0=some v):Ret Tryd.prog Tg [(Bi false) f0,Af n0] (V.bool v):=by
 refine Bp Alr (Nat.le_of_ble_eq_true rfl) ?_
 unfold L2 at h
 conv=>whnf
 refine Cells.lit rfl rfl ?_
 conv=>whnf
 refine Br.od h (fun p1 h=> ?_) (fun p1 h=> ?_)
 ·conv=>whnf
  refine Br.yes ?_
  conv=>whnf
  refine Cells.lit rfl rfl ?_
  conv=>whnf
  refine Br.yes ?_
  conv=>whnf
  refine Br.yes ?_
  conv=>whnf
  refine Br.od h (fun p2 h=> ?_) (fun p2 h=> ?_)
  ·conv=>whnf
   refine Br.yes ?_
   conv=>whnf
   refine Cells.lit rfl rfl ?_
   conv=>whnf
   refine Br.yes ?_
   conv=>whnf
   refine Len.map ?_
   conv=>whnf
   refine Br.yes ?_
   conv=>whnf
   refine Br.yes ?_
   conv=>whnf
   refine Br.yes ?_
   conv=>whnf
   refine Cells.lit rfl rfl ?_
   conv=>whnf
   refine Br.yes ?_
   conv=>whnf
   refine CallP.o Af (by first | rfl | simp only [Aa,V.fz,fzL,V.up,upL,Ab,Ac,Ad,slr,List.cons_append,List.nil_append] | simp [Aa,V.fz,fzL,V.up,upL,Ab,Ac,Ad,slr]) h (fun r h=>Ah9 h) (fun r3 h=> ?_)
   conv=>whnf
   refine Br.yes ?_
   conv=>whnf
   refine Br.yes ?_
   conv=>whnf
   refine Br.oe h (fun p4 h=> ?_) (fun p4 h=> ?_)
   ·conv=>whnf
    refine Br.yes ?_
    conv=>whnf
    refine Cells.lit rfl rfl ?_
    conv=>whnf
    refine Br.yes ?_
    conv=>whnf
    refine Br.yes ?_
    conv=>whnf
    refine CallQ.o V.bool (by first | rfl | simp only [Aa,V.fz,fzL,V.up,upL,Ab,Ac,Ad,slr,List.cons_append,List.nil_append] | simp [Aa,V.fz,fzL,V.up,upL,Ab,Ac,Ad,slr]) h (fun r h=>Agm h) (fun r5 h=> ?_)
    conv=>whnf
    refine Br.yes ?_
    conv=>whnf
    cases h;exact (by first | rfl | simp only [Ah,Aa,V.fz,fzL,V.up,upL,Ab,Ac,Ad,slr] | simp [Ah,Aa,V.fz,fzL,V.up,upL,Ab,Ac,Ad,slr])
   conv=>whnf
   refine Br.no ?_
   conv=>whnf
   refine Br.no ?_
   conv=>whnf
   refine Br.no ?_
   conv=>whnf
   refine Br.no ?_
   conv=>whnf
   cases h;exact (by first | rfl | simp only [Ah,Aa,V.fz,fzL,V.up,upL,Ab,Ac,Ad,slr] | simp [Ah,Aa,V.fz,fzL,V.up,upL,Ab,Ac,Ad,slr])
  conv=>whnf
  refine Br.no ?_
  conv=>whnf
  refine Br.no ?_
  conv=>whnf
  refine Br.no ?_
  conv=>whnf
  refine Br.no ?_
  conv=>whnf
  refine Br.no ?_
  conv=>whnf
  refine Br.no ?_
  conv=>whnf
  refine Br.no ?_
  conv=>whnf
  refine Br.no ?_
  conv=>whnf
  refine Br.no ?_
  conv=>whnf
  refine Br.no ?_
  conv=>whnf
  refine Br.no ?_
  conv=>whnf
  refine Br.no ?_
  conv=>whnf
  refine Br.no ?_
  conv=>whnf
  cases h;exact (by first | rfl | simp only [Ah,Aa,V.fz,fzL,V.up,upL,Ab,Ac,Ad,slr] | simp [Ah,Aa,V.fz,fzL,V.up,upL,Ab,Ac,Ad,slr])
 conv=>whnf
 refine Br.no ?_
 conv=>whnf
 refine Br.no ?_
 conv=>whnf
 refine Br.no ?_
 conv=>whnf
 refine Br.no ?_
 conv=>whnf
 refine Br.no ?_
 conv=>whnf
 refine Br.no ?_
 conv=>whnf
 refine Br.no ?_
 conv=>whnf
 refine Br.no ?_
 conv=>whnf
 refine Br.no ?_
 conv=>whnf
 refine Br.no ?_
 conv=>whnf
 refine Br.no ?_
 conv=>whnf
 refine Br.no ?_
 conv=>whnf
 refine Br.no ?_
 conv=>whnf
 refine Br.no ?_
 conv=>whnf
 refine Br.no ?_
 conv=>whnf
 refine Br.no ?_
 conv=>whnf
 refine Br.no ?_
 conv=>whnf
 cases h;exact (by first | rfl | simp only [Ah,Aa,V.fz,fzL,V.up,upL,Ab,Ac,Ad,slr] | simp [Ah,Aa,V.fz,fzL,V.up,upL,Ab,Ac,Ad,slr])
end Go.Proofs.YtbnoclklhcbidaaDoor.Ax
