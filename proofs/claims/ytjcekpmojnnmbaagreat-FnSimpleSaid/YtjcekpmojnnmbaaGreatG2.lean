/-
 What the functions compute, as functions on plain data, and that the program does compute it; written by program.
-/
import Derived.Test.YtjcekpmojnnmbaaGreatCode
namespace Go.Proofs.YtjcekpmojnnmbaaGreat.Ax
open Go
set_option maxRecDepth 100000
set_option maxHeartbeats 4000000
noncomputable def Av (self:Int→Int→List Bool→List Int→Option (Bool×List Bool×List Int)) (i0:Int) (a1:Int) (a3:Int→Int→Option Bool):(Int×(List Bool)×(List Int))→Option ((Int×(List Bool)×(List Int)) ⊕ (((List Bool)×(List Int)) ⊕ ((List Bool)×(List Int)))):=fun (x8,x47,x49)=>
 if x8<a1 then
 ((ask ((0:Int)≤x8∧x8<(↑x47.length:Int)) <|
 if (nth x47 x8.toNat)=true then
 some (.inl ())
 else
 (a3 (i0) (x8)).bind fun r4=>
 if (r4)=true then
 some (.inr ())
 else
 some (.inl ()):Option (Unit ⊕ Unit))).bind fun t=>match t with
 | (.inl _)=>(ask (InI (x8+(1:Int))) <|
 some (.inl (x8+(1:Int),x47,x49)))
 | (.inr _)=>(ask ((0:Int)≤x8∧x8<(↑x47.length:Int)) <|
 ask ((0:Int)≤x8∧x8<(↑x49.length:Int)) <|
 if nth x49 x8.toNat<(0:Int) then
 ask ((0:Int)≤x8∧x8<(↑x49.length:Int)) <|
 some (.inr (.inl (x47.set x8.toNat true,x49.set x8.toNat i0)))
 else
 ask ((0:Int)≤x8∧x8<(↑x49.length:Int)) <|
 (self (nth x49 x8.toNat) (a1) (x47.set x8.toNat true) (x49)).bind fun (r13,u14,u15)=>
 if (r13)=true then
 ask ((0:Int)≤x8∧x8<(↑u15.length:Int)) <|
 some (.inr (.inl (u14,u15.set x8.toNat i0)))
 else
 ask (InI (x8+(1:Int))) <|
 some (.inl (x8+(1:Int),u14,u15)))
 else
 some (.inr (.inr (x47,x49)))
def Jk (i0:Int) (a1:Int) (f_a3:Nat) (c_a3:List V):(Int×(List Bool)×(List Int))→St:=fun s=>[(8,A.val (Af s.1)),(5,A.tie false Cd [A.val (rP false Af a1),A.ref ((45:Nat)+((1:Nat)+(1:Nat))) [],A.val (V.ptr false (V.fclo f_a3 c_a3)),A.ref ((45:Nat)+((1:Nat)+(1:Nat)+(1:Nat)+(1:Nat))) []] []),(0,A.val (Af (i0))),(1,A.val ((rP false Af) (a1))),(2,A.ref 47 []),(47,A.val ((rP true (slr true 1 V.bool)) s.2.1)),(3,A.val (V.ptr false (V.fclo f_a3 c_a3))),(4,A.ref 49 []),(49,A.val ((rP true (slr true 1 Af)) s.2.2))]
def O6 (_i0:Int) (_a1:Int) (_f_a3:Nat) (_c_a3:List V):(((List Bool)×(List Int)) ⊕ ((List Bool)×(List Int)))→Tgt
 | (.inl s)=>(Ex.ret,[7,47,49],[(7,A.val (V.bool (true))),(47,A.val ((rP true (slr true 1 V.bool)) s.1)),(49,A.val ((rP true (slr true 1 Af)) s.2))])
 | (.inr s)=>((Ex.exit 0),[47,49],[(47,A.val ((rP true (slr true 1 V.bool)) s.1)),(49,A.val ((rP true (slr true 1 Af)) s.2))])
theorem Zf {self:Int→Int→List Bool→List Int→Option (Bool×List Bool×List Int)} {i0:Int} {a1:Int} {a3:Int→Int→Option Bool} {f_a3:Nat} {c_a3:List V} (h_a3 : ∀w_0 w_1 v,a3 w_0 w_1=some v→Ret Tryz.prog f_a3 ([Af w_0,Af w_1]++fzL c_a3) (V.bool v)) (hself : ∀ {w_0 w_1 w_2 w_4 v},self w_0 w_1 w_2 w_4=some v→Ajk Tryz.prog Cd 1 4 [Af w_0,(rP false Af) w_1,(rP true (slr true 1 V.bool)) w_2,V.ptr false (V.fclo f_a3 c_a3),(rP true (slr true 1 Af)) w_4,V.dead] (V.bool v.1) 2 ((rP true (slr true 1 V.bool)) v.2.1) 4 ((rP true (slr true 1 Af)) v.2.2)) (s:(Int×(List Bool)×(List Int))) (o:(Int×(List Bool)×(List Int)) ⊕ (((List Bool)×(List Int)) ⊕ ((List Bool)×(List Int)))) (h:Av self i0 a1 a3 s=some o):vc Tryz.prog O8 (Dl [8,5,0,1,2,47,3,4,49] (Jk i0 a1 f_a3 c_a3) (O6 i0 a1 f_a3 c_a3) o) (Jk i0 a1 f_a3 c_a3 s):=by
 obtain ⟨x8,x47,x49⟩:=s
 unfold Av at h
 try dsimp only at h
 refine Br.od h (fun p1 h=> ?_) (fun p1 h=> ?_)
 ·refine CutQ.o (fun t:(Unit ⊕ Unit)=>match t with | (.inl s)=>((Ex.exit 1),[8,5,0,1,2,47,3,4,49],[(8,A.val (Af (x8))),(5,A.tie false Cd [A.val (rP false Af a1),A.ref ((45:Nat)+((1:Nat)+(1:Nat))) [],A.val (V.ptr false (V.fclo f_a3 c_a3)),A.ref ((45:Nat)+((1:Nat)+(1:Nat)+(1:Nat)+(1:Nat))) []] []),(0,A.val (Af (i0))),(1,A.val ((rP false Af) (a1))),(2,A.ref 47 []),(47,A.val ((rP true (slr true 1 V.bool)) (x47))),(3,A.val (V.ptr false (V.fclo f_a3 c_a3))),(4,A.ref 49 []),(49,A.val ((rP true (slr true 1 Af)) (x49)))]) | (.inr s)=>(Ex.normal,[8,5,0,1,2,47,3,4,49],[(8,A.val (Af (x8))),(5,A.tie false Cd [A.val (rP false Af a1),A.ref ((45:Nat)+((1:Nat)+(1:Nat))) [],A.val (V.ptr false (V.fclo f_a3 c_a3)),A.ref ((45:Nat)+((1:Nat)+(1:Nat)+(1:Nat)+(1:Nat))) []] []),(0,A.val (Af (i0))),(1,A.val ((rP false Af) (a1))),(2,A.ref 47 []),(47,A.val ((rP true (slr true 1 V.bool)) (x47))),(3,A.val (V.ptr false (V.fclo f_a3 c_a3))),(4,A.ref 49 []),(49,A.val ((rP true (slr true 1 Af)) (x49)))])) h ?_ ?_
  ·intro t h
   refine Cells.lit rfl rfl<|Kid.lit rfl rfl<|Len.map<|Ask.o h fun p2 h=>Kid.lit rfl rfl<|Cells.one (fun _=>⟨rfl,rfl⟩) (by first | omega | (simp [Ap] at * <;> omega))<|Br.ob h (fun p3 h=> ?_) (fun p3 h=> ?_)
   ·refine Br.yes<|Br.yes<|Br.yes<|Br.yes<|Br.yes<|Br.yes ?_
    cases h;exact ⟨rfl,rfl⟩
   refine Br.no<|Br.no<|Br.no<|CloQ.o V.bool (by rfl) (fun _=>by first | rfl | simp [Db,V.noFz,Ca,Bo,NoFz.eq]) h (fun r h=>h_a3 _ _ _ h) (fun r4 h=> ?_)
   refine Br.no<|Br.no<|Br.flip<|Br.ob h (fun p5 h=> ?_) (fun p5 h=> ?_)
   ·cases h;exact ⟨rfl,rfl⟩
   cases h;exact ⟨rfl,rfl⟩
  rintro (⟨⟩ | ⟨⟩) h
  ·try dsimp only at h
   refine Ask.o h fun p7 h=> ?_
   cases h;exact ⟨rfl,rfl⟩
  try dsimp only at h
  refine Cells.lit rfl rfl<|Kid.lit rfl rfl<|Len.map<|Ask.o h fun p8 h=>Kid.lit rfl rfl<|SetKids.one (fun _=>⟨rfl,rfl⟩) (true) (by rfl) (by first | omega | (simp [Ap] at * <;> omega))<|Kid.lit rfl rfl<|SetKids.lit rfl<|Cells.lit rfl rfl<|Kid.lit rfl rfl<|Len.map<|Ask.o h fun p9 h=>Kid.lit rfl rfl<|Cells.one (fun _=>⟨rfl,rfl⟩) (by first | omega | (simp [Ap] at * <;> omega))<|Br.od h (fun p10 h=> ?_) (fun p10 h=> ?_)
  ·refine Br.yes<|Br.yes<|Br.yes<|Br.yes<|Br.yes<|Br.yes<|Br.yes<|Cells.lit rfl rfl<|Kid.lit rfl rfl<|Len.map<|Ask.o h fun p11 h=>Kid.lit rfl rfl<|SetKids.one (fun _=>⟨rfl,rfl⟩) (i0) (by rfl) (by first | omega | (simp [Ap] at * <;> omega))<|Kid.lit rfl rfl<|SetKids.lit rfl ?_
   cases h;exact ⟨rfl,rfl⟩
  refine Br.no<|Cells.lit rfl rfl<|Br.no<|Br.no<|Kid.lit rfl rfl<|Len.map<|Ask.o h fun p12 h=>Br.no<|Kid.lit rfl rfl<|Cells.one (fun _=>⟨rfl,rfl⟩) (by first | omega | (simp [Ap] at * <;> omega))<|Br.no<|CallT.io2 V.bool (rP true (slr true 1 V.bool)) (rP true (slr true 1 Af)) (by rfl) rfl rfl (fun _=>rfl) (fun _=>⟨rfl,rfl⟩) (fun _=>⟨rfl,rfl⟩) rfl rfl h (fun r h=>hself h) (fun r13 u14 u15 h=> ?_)
  refine Br.no<|Br.ob h (fun p16 h=> ?_) (fun p16 h=> ?_)
  ·refine Cells.lit rfl rfl<|Kid.lit rfl rfl<|Len.map<|Ask.o h fun p17 h=>Kid.lit rfl rfl<|SetKids.one (fun _=>⟨rfl,rfl⟩) (i0) (by rfl) (by first | omega | (simp [Ap] at * <;> omega))<|Kid.lit rfl rfl<|SetKids.lit rfl ?_
   cases h;exact ⟨rfl,rfl⟩
  refine Ask.o h fun p18 h=> ?_
  cases h;exact ⟨rfl,rfl⟩
 cases h;exact ⟨rfl,rfl⟩
noncomputable def B8 (self:Int→Int→(List Bool)→(List Int)→Option (Bool×(List Bool)×(List Int))) (i0:Int) (a1:Int) (a2:(List Bool)) (a3:(Int→Int→Option Bool)) (a4:(List Int)):Option (Bool×(List Bool)×(List Int)):=
 (Al (Av self i0 a1 a3) ((0:Int),a2,a4)).bind fun t=>match t with
 | (.inl (q19_47,q19_49))=>(some (true,q19_47,q19_49))
 | (.inr (q19_47,q19_49))=>(some (false,q19_47,q19_49))
noncomputable def Bd (a3:(Int→Int→Option Bool)):Nat→Int→Int→(List Bool)→(List Int)→Option (Bool×(List Bool)×(List Int))
 | 0=>fun _ _ _ _=>none
 | n+1=>fun i0 a1 a2 a4=>B8 (Bd a3 n) i0 a1 a2 a3 a4
theorem Abe {self:Int→Int→(List Bool)→(List Int)→Option (Bool×(List Bool)×(List Int))} {i0:Int} {a1:Int} {a2:(List Bool)} {a3:(Int→Int→Option Bool)} {a4:(List Int)} {f_a3:Nat} {c_a3:List V} (h_a3 : ∀w_0 w_1 v,a3 w_0 w_1=some v→Ret Tryz.prog f_a3 ([Af w_0,Af w_1]++fzL c_a3) (V.bool v)) (hself : ∀ {w_0 w_1 w_2 w_4 v},self w_0 w_1 w_2 w_4=some v→Ajk Tryz.prog Cd 1 4 [Af w_0,(rP false Af) w_1,(rP true (slr true 1 V.bool)) w_2,V.ptr false (V.fclo f_a3 c_a3),(rP true (slr true 1 Af)) w_4,V.dead] (V.bool v.1) 2 ((rP true (slr true 1 V.bool)) v.2.1) 4 ((rP true (slr true 1 Af)) v.2.2)) {v:(Bool×(List Bool)×(List Int))} (h:B8 self i0 a1 a2 a3 a4=some v):Ajk Tryz.prog Cd 1 4 [Af i0,(rP false Af) a1,(rP true (slr true 1 V.bool)) a2,V.ptr false (V.fclo f_a3 c_a3),(rP true (slr true 1 Af)) a4,V.dead] (V.bool v.1) 2 ((rP true (slr true 1 V.bool)) v.2.1) 4 ((rP true (slr true 1 Af)) v.2.2):=by
 refine Azq Aeb (Nat.le_of_ble_eq_true rfl) (Nat.le_of_ble_eq_true rfl) ?_
 unfold B8 at h
 refine LoopQ.o [8,5,0,1,2,47,3,4,49] (Jk i0 a1 f_a3 c_a3) (O6 i0 a1 f_a3 c_a3) h (fun s o h=>Zf h_a3 hself s o h) (by rfl) (by rintro (_ | _)<;>rfl) ?_
 rintro (⟨q19_47,q19_49⟩ | ⟨q19_47,q19_49⟩) h
 ·try dsimp only at h
  cases h;exact ⟨(by rfl),(by rfl),(by rfl)⟩
 try dsimp only at h
 cases h;exact ⟨(by rfl),(by rfl),(by rfl)⟩
theorem Q8 {a3:(Int→Int→Option Bool)} {f_a3:Nat} {c_a3:List V} (h_a3 : ∀w_0 w_1 v,a3 w_0 w_1=some v→Ret Tryz.prog f_a3 ([Af w_0,Af w_1]++fzL c_a3) (V.bool v)) : ∀(n:Nat) {i0:Int} {a1:Int} {a2:(List Bool)} {a4:(List Int)} {v:(Bool×(List Bool)×(List Int))},Bd a3 n i0 a1 a2 a4=some v→Ajk Tryz.prog Cd 1 4 [Af i0,(rP false Af) a1,(rP true (slr true 1 V.bool)) a2,V.ptr false (V.fclo f_a3 c_a3),(rP true (slr true 1 Af)) a4,V.dead] (V.bool v.1) 2 ((rP true (slr true 1 V.bool)) v.2.1) 4 ((rP true (slr true 1 Af)) v.2.2)
 | 0,_,_,_,_,_,h=>by cases h
 | n+1,_,_,_,_,_,h=>Abe h_a3 (fun h=>Q8 h_a3 n h) h
theorem Afo {i0:Int} {a1:Int} {a2:(List Bool)} {a3:(Int→Int→Option Bool)} {a4:(List Int)} {f_a3:Nat} {c_a3:List V} (h_a3 : ∀w_0 w_1 v,a3 w_0 w_1=some v→Ret Tryz.prog f_a3 ([Af w_0,Af w_1]++fzL c_a3) (V.bool v)) {v:(Bool×(List Bool)×(List Int))} (h:(Amk fun n=>Bd a3 n i0 a1 a2 a4)=some v):Ajk Tryz.prog Cd 1 4 [Af i0,(rP false Af) a1,(rP true (slr true 1 V.bool)) a2,V.ptr false (V.fclo f_a3 c_a3),(rP true (slr true 1 Af)) a4,V.dead] (V.bool v.1) 2 ((rP true (slr true 1 V.bool)) v.2.1) 4 ((rP true (slr true 1 Af)) v.2.2):=by
 obtain ⟨n,hn⟩:=Anz h
 exact Q8 h_a3 n hn
noncomputable def D5 (p0:List Int) (q0:List Int):Int→Option (Int ⊕ (Unit ⊕ Unit)):=fun x5=>
 if x5<(↑p0.length:Int) then
 ask ((0:Int)≤x5∧x5<(↑p0.length:Int)) <|
 ask ((0:Int)≤nth p0 x5.toNat∧nth p0 x5.toNat<(↑q0.length:Int)) <|
 ask ((0:Int)≤x5∧x5<(↑q0.length:Int)) <|
 if nth q0 (nth p0 x5.toNat).toNat≠nth q0 x5.toNat then
 some (.inr (.inl ()))
 else
 ask (InI (x5+(1:Int))) <|
 some (.inl (x5+(1:Int)))
 else
 some (.inr (.inr ()))
def Ls (p0:List Int) (q0:List Int):Int→St:=fun s=>[(5,A.val (Af s)),(0,A.val ((slr false 1 Af) (p0))),(1,A.val ((slr false 1 Af) (q0)))]
def Se (_p0:List Int) (_q0:List Int):(Unit ⊕ Unit)→Tgt
 | (.inl _s)=>(Ex.ret,[4],[(4,A.val (V.bool (false)))])
 | (.inr _s)=>((Ex.exit 0),[],[])
theorem Ab8 {p0:List Int} {q0:List Int} (x5:Int) (o:Int ⊕ (Unit ⊕ Unit)) (h:D5 p0 q0 x5=some o):vc Tryz.prog Sy (Dl [5,0,1] (Ls p0 q0) (Se p0 q0) o) (Ls p0 q0 x5):=by
 unfold D5 at h
 try dsimp only at h
 refine Len.map<|Br.od h (fun p1 h=> ?_) (fun p1 h=> ?_)
 ·refine Len.map<|Ask.o h fun p2 h=>Elem.o (by first | omega | (simp [Ap] at * <;> omega))<|Len.map<|Ask.o h fun p3 h=>Elem.o (by first | omega | (simp [Ap] at * <;> omega))<|Len.map<|Ask.o h fun p4 h=>Elem.o (by first | omega | (simp [Ap] at * <;> omega))<|Br.on h (fun p5 h=> ?_) (fun p5 h=> ?_)
  ·cases h;exact ⟨rfl,rfl⟩
  refine Ask.o h fun p6 h=> ?_
  cases h;exact ⟨rfl,rfl⟩
 cases h;exact ⟨rfl,rfl⟩
noncomputable def Ez (p0:(List Int)) (q0:(List Int)):Option Bool:=
 (Al (D5 p0 q0) (0:Int)).bind fun t=>match t with
 | (.inl _)=>(some false)
 | (.inr _)=>(some true)
theorem Lu {p0:(List Int)} {q0:(List Int)} {v:Bool} (h:Ez p0 q0=some v):Ret Tryz.prog Ha [(slr false 1 Af) p0,(slr false 1 Af) q0] (V.bool v):=by
 refine A5 Aiy (Nat.le_of_ble_eq_true rfl) ?_
 unfold Ez at h
 refine LoopQ.o [5,0,1] (Ls p0 q0) (Se p0 q0) h (fun s o h=>Ab8 s o h) (by rfl) (by rintro (_ | _)<;>rfl) ?_
 rintro (⟨⟩ | ⟨⟩) h
 ·try dsimp only at h
  cases h;exact (by rfl)
 try dsimp only at h
 cases h;exact (by rfl)
noncomputable def Ek (a0:List Int) (b0:List Int):Int→Option (Int ⊕ (Unit ⊕ Unit)):=fun x5=>
 if x5<(↑a0.length:Int) then
 ask ((0:Int)≤x5∧x5<(↑a0.length:Int)) <|
 ask ((0:Int)≤x5∧x5<(↑b0.length:Int)) <|
 if nth a0 x5.toNat≠nth b0 x5.toNat then
 some (.inr (.inl ()))
 else
 ask (InI (x5+(1:Int))) <|
 some (.inl (x5+(1:Int)))
 else
 some (.inr (.inr ()))
def M3 (a0:List Int) (b0:List Int):Int→St:=fun s=>[(5,A.val (Af s)),(0,A.val ((slr false 1 Af) (a0))),(1,A.val ((slr false 1 Af) (b0)))]
def Tz (_a0:List Int) (_b0:List Int):(Unit ⊕ Unit)→Tgt
 | (.inl _s)=>(Ex.ret,[4],[(4,A.val (V.bool (false)))])
 | (.inr _s)=>((Ex.exit 0),[],[])
theorem Ae9 {a0:List Int} {b0:List Int} (x5:Int) (o:Int ⊕ (Unit ⊕ Unit)) (h:Ek a0 b0 x5=some o):vc Tryz.prog Ur (Dl [5,0,1] (M3 a0 b0) (Tz a0 b0) o) (M3 a0 b0 x5):=by
 unfold Ek at h
 try dsimp only at h
 refine Len.map<|Br.od h (fun p2 h=> ?_) (fun p2 h=> ?_)
 ·refine Len.map<|Ask.o h fun p3 h=>Elem.o (by first | omega | (simp [Ap] at * <;> omega))<|Len.map<|Ask.o h fun p4 h=>Elem.o (by first | omega | (simp [Ap] at * <;> omega))<|Br.on h (fun p5 h=> ?_) (fun p5 h=> ?_)
  ·cases h;exact ⟨rfl,rfl⟩
  refine Ask.o h fun p6 h=> ?_
  cases h;exact ⟨rfl,rfl⟩
 cases h;exact ⟨rfl,rfl⟩
noncomputable def Fv (a0:(List Int)) (b0:(List Int)):Option Bool:=
 if (↑a0.length:Int)≠(↑b0.length:Int) then
 some false
 else
 (Al (Ek a0 b0) (0:Int)).bind fun t=>match t with
 | (.inl _)=>(some false)
 | (.inr _)=>(some true)
theorem Nk {a0:(List Int)} {b0:(List Int)} {v:Bool} (h:Fv a0 b0=some v):Ret Tryz.prog H4 [(slr false 1 Af) a0,(slr false 1 Af) b0] (V.bool v):=by
 refine A5 Alo (Nat.le_of_ble_eq_true rfl) ?_
 unfold Fv at h
 refine Len.map<|Len.map<|Br.on h (fun p1 h=> ?_) (fun p1 h=> ?_)
 ·cases h;exact (by rfl)
 refine LoopQ.o [5,0,1] (M3 a0 b0) (Tz a0 b0) h (fun s o h=>Ae9 s o h) (by rfl) (by rintro (_ | _)<;>rfl) ?_
 rintro (⟨⟩ | ⟨⟩) h
 ·try dsimp only at h
  cases h;exact (by rfl)
 try dsimp only at h
 cases h;exact (by rfl)
noncomputable def In (x0:Int) (a0:Int) (b0:Int):Option Bool:=
 if x0≥a0 then
 some (decide (x0≤b0))
 else
 some false
theorem Yh {x0:Int} {a0:Int} {b0:Int} {v:Bool} (h:In x0 a0 b0=some v):Ret Tryz.prog Oa [Af x0,Af a0,Af b0] (V.bool v):=by
 refine A5 Arg (Nat.le_of_ble_eq_true rfl) ?_
 unfold In at h
 refine Br.od h (fun p1 h=> ?_) (fun p1 h=> ?_)
 ·refine Br.yes<|Br.yes<|Br.yes ?_
  cases h;exact (by rfl)
 refine Br.no<|Br.no<|Br.no ?_
 cases h;exact (by rfl)
noncomputable def Ep (list0:List Int) (n0:Int):Int→Option (Int ⊕ (Unit ⊕ Unit)):=fun x9=>
 if x9<(↑list0.length:Int) then
 ask ((0:Int)≤x9∧x9<(↑list0.length:Int)) <|
 if nth list0 x9.toNat<(0:Int) then
 some (.inr (.inl ()))
 else
 if nth list0 x9.toNat≥n0 then
 some (.inr (.inl ()))
 else
 ask (InI (x9+(1:Int))) <|
 some (.inl (x9+(1:Int)))
 else
 some (.inr (.inr ()))
def Mz (list0:List Int) (n0:Int):Int→St:=fun s=>[(9,A.val (Af s)),(8,A.val (Af ((↑list0.length:Int)))),(7,A.val ((slr false 1 Af) (list0))),(1,A.val (Af (n0)))]
def T9 (_list0:List Int) (_n0:Int):(Unit ⊕ Unit)→Tgt
 | (.inl _s)=>(Ex.ret,[4],[(4,A.val (V.bool (false)))])
 | (.inr _s)=>((Ex.exit 0),[],[])
theorem Afe {list0:List Int} {n0:Int} (x9:Int) (o:Int ⊕ (Unit ⊕ Unit)) (h:Ep list0 n0 x9=some o):vc Tryz.prog Uf (Dl [9,8,7,1] (Mz list0 n0) (T9 list0 n0) o) (Mz list0 n0 x9):=by
 unfold Ep at h
 try dsimp only at h
 refine Br.od h (fun p1 h=> ?_) (fun p1 h=> ?_)
 ·refine Len.map<|Ask.o h fun p2 h=>Elem.o (by first | omega | (simp [Ap] at * <;> omega))<|Br.od h (fun p3 h=> ?_) (fun p3 h=> ?_)
  ·refine Br.yes<|Br.yes<|Br.yes<|Br.yes ?_
   cases h;exact ⟨rfl,rfl⟩
  refine Br.no<|Br.no<|Br.no<|Br.od h (fun p4 h=> ?_) (fun p4 h=> ?_)
  ·cases h;exact ⟨rfl,rfl⟩
  refine Ask.o h fun p5 h=> ?_
  cases h;exact ⟨rfl,rfl⟩
 cases h;exact ⟨rfl,rfl⟩
noncomputable def J9 (list0:(List Int)) (n0:Int):Option Bool:=
 (Al (Ep list0 n0) (0:Int)).bind fun t=>match t with
 | (.inl _)=>(some false)
 | (.inr _)=>(some true)
theorem Amg {list0:(List Int)} {n0:Int} {v:Bool} (h:J9 list0 n0=some v):Ret Tryz.prog Tj [(slr false 1 Af) list0,Af n0] (V.bool v):=by
 refine A5 Alm (Nat.le_of_ble_eq_true rfl) ?_
 unfold J9 at h
 refine Len.map<|LoopQ.o [9,8,7,1] (Mz list0 n0) (T9 list0 n0) h (fun s o h=>Afe s o h) (by rfl) (by rintro (_ | _)<;>rfl) ?_
 rintro (⟨⟩ | ⟨⟩) h
 ·try dsimp only at h
  cases h;exact (by rfl)
 try dsimp only at h
 cases h;exact (by rfl)
noncomputable def Fk (n0:Int):(Int×Int)→Option ((Int×Int) ⊕ Int):=fun (x5,x1)=>
 if x1>(0:Int) then
 ask (InI (x5*n0)) <|
 ask (InI (x1-(1:Int))) <|
 some (.inl (x5*n0,x1-(1:Int)))
 else
 some (.inr x5)
def Ox (n0:Int):(Int×Int)→St:=fun s=>[(5,A.val (Af s.1)),(0,A.val (Af (n0))),(1,A.val (Af s.2))]
def Wx (_n0:Int):Int→Tgt
 | s=>((Ex.exit 0),[5],[(5,A.val (Af s))])
theorem Ag8 {n0:Int} (s:(Int×Int)) (o:(Int×Int) ⊕ Int) (h:Fk n0 s=some o):vc Tryz.prog Ws (Dl [5,0,1] (Ox n0) (Wx n0) o) (Ox n0 s):=by
 obtain ⟨x5,x1⟩:=s
 unfold Fk at h
 try dsimp only at h
 refine Br.od h (fun p1 h=> ?_) (fun p1 h=> ?_)
 ·refine Ask.o h fun p2 h=>Ask.o h fun p3 h=> ?_
  cases h;exact ⟨rfl,rfl⟩
 cases h;exact ⟨rfl,rfl⟩
noncomputable def Hr (n0:Int) (k0:Int):Option Int:=
 (Al (Fk n0) ((1:Int),k0)).bind fun q4_5=>
 some q4_5
theorem Aci {n0:Int} {k0:Int} {v:Int} (h:Hr n0 k0=some v):Ret Tryz.prog Ph [Af n0,Af k0] (Af v):=by
 refine A5 Ap4 (Nat.le_of_ble_eq_true rfl) ?_
 unfold Hr at h
 refine LoopQ.o [5,0,1] (Ox n0) (Wx n0) h (fun s o h=>Ag8 s o h) (by rfl) (fun _=>rfl) ?_
 rintro q4_5 h
 try dsimp only at h
 cases h;exact (by rfl)
noncomputable def Ds (n0:Int):(Int×(List Int))→Option ((Int×(List Int)) ⊕ (List Int)):=fun (x9,x3)=>
 if x9<(↑n0.toNat:Int) then
 ask ((0:Int)≤x9∧x9<(↑x3.length:Int)) <|
 ask (InI (x9+(1:Int))) <|
 some (.inl (x9+(1:Int),x3.set x9.toNat x9))
 else
 some (.inr x3)
def I6 (n0:Int):(Int×(List Int))→St:=fun s=>[(9,A.val (Af s.1)),(8,A.val (Af ((↑n0.toNat:Int)))),(3,A.val ((slr true 1 Af) s.2))]
def N0 (_n0:Int):(List Int)→Tgt
 | s=>((Ex.exit 0),[3],[(3,A.val ((slr true 1 Af) s))])
theorem Yw {n0:Int} (s:(Int×(List Int))) (o:(Int×(List Int)) ⊕ (List Int)) (h:Ds n0 s=some o):vc Tryz.prog Nz (Dl [9,8,3] (I6 n0) (N0 n0) o) (I6 n0 s):=by
 obtain ⟨x9,x3⟩:=s
 unfold Ds at h
 try dsimp only at h
 refine Br.od h (fun p2 h=> ?_) (fun p2 h=> ?_)
 ·refine Len.map<|Ask.o h fun p3 h=>SetKids.one (fun _=>⟨rfl,rfl⟩) (x9) (by rfl) (by first | omega | (simp [Ap] at * <;> omega))<|Ask.o h fun p4 h=> ?_
  cases h;exact ⟨rfl,rfl⟩
 cases h;exact ⟨rfl,rfl⟩
noncomputable def Fb (n0:Int):Option (List Int):=
 ask ((0:Int)≤n0∧n0≤(↑LIM:Int)) <|
 (Al (Ds n0) ((0:Int),List.replicate n0.toNat (0:Int))).bind fun q5_3=>
 some q5_3
theorem Sl {n0:Int} {v:(List Int)} (h:Fb n0=some v):Ret Tryz.prog Ik [Af n0] ((slr true 1 Af) v):=by
 refine A5 Acn (Nat.le_of_ble_eq_true rfl) ?_
 unfold Fb at h
 refine Ask.o h fun p1 h=>MkQ.o Af ((0:Int)) rfl<|Len.mrep<|LoopQ.o [9,8,3] (I6 n0) (N0 n0) h (fun s o h=>Yw s o h) (by rfl) (fun _=>rfl) ?_
 rintro q5_3 h
 try dsimp only at h
 cases h;exact (by rfl)
noncomputable def El (n0:Int):(Int×(List Int)×Int)→Option ((Int×(List Int)×Int) ⊕ (List Int)):=fun (x8,x7,x2)=>
 if x8≥(0:Int) then
 ask (n0≠(0:Int)) <|
 ask ((0:Int)≤x8∧x8<(↑x7.length:Int)) <|
 ask (n0≠(0:Int)∧InI (x2.tdiv n0)) <|
 ask (InI (x8-(1:Int))) <|
 some (.inl (x8-(1:Int),x7.set x8.toNat (x2.tmod n0),x2.tdiv n0))
 else
 some (.inr x7)
def Ms (n0:Int):(Int×(List Int)×Int)→St:=fun s=>[(8,A.val (Af s.1)),(7,A.val ((slr true 1 Af) s.2.1)),(0,A.val (Af (n0))),(2,A.val (Af s.2.2))]
def Um (_n0:Int):(List Int)→Tgt
 | s=>((Ex.exit 0),[7],[(7,A.val ((slr true 1 Af) s))])
theorem Ae6 {n0:Int} (s:(Int×(List Int)×Int)) (o:(Int×(List Int)×Int) ⊕ (List Int)) (h:El n0 s=some o):vc Tryz.prog Ty (Dl [8,7,0,2] (Ms n0) (Um n0) o) (Ms n0 s):=by
 obtain ⟨x8,x7,x2⟩:=s
 unfold El at h
 try dsimp only at h
 refine Br.od h (fun p3 h=> ?_) (fun p3 h=> ?_)
 ·refine Ask.o h fun p4 h=>Len.map<|Ask.o h fun p5 h=>SetKids.one (fun _=>⟨rfl,rfl⟩) (x2.tmod n0) (by rfl) (by first | omega | (simp [Ap] at * <;> omega))<|Ask.o h fun p6 h=>Ask.o h fun p7 h=> ?_
  cases h;exact ⟨rfl,rfl⟩
 cases h;exact ⟨rfl,rfl⟩
noncomputable def Ju (n0:Int) (arity0:Int) (at0:Int):Option (List Int):=
 ask ((0:Int)≤arity0∧arity0≤(↑LIM:Int)) <|
 ask (InI (arity0-(1:Int))) <|
 (Al (El n0) (arity0-(1:Int),List.replicate arity0.toNat (0:Int),at0)).bind fun q8_7=>
 some q8_7
theorem Ald {n0:Int} {arity0:Int} {at0:Int} {v:(List Int)} (h:Ju n0 arity0 at0=some v):Ret Tryz.prog Tf [Af n0,Af arity0,Af at0] ((slr true 1 Af) v):=by
 refine A5 Alj (Nat.le_of_ble_eq_true rfl) ?_
 unfold Ju at h
 refine Ask.o h fun p1 h=>MkQ.o Af ((0:Int)) rfl<|Ask.o h fun p2 h=>LoopQ.o [8,7,0,2] (Ms n0) (Um n0) h (fun s o h=>Ae6 s o h) (by rfl) (fun _=>rfl) ?_
 rintro q8_7 h
 try dsimp only at h
 cases h;exact (by rfl)
noncomputable def Hw (l0:(List Int)):Option (List Int):=
 ask ((Aw Int).length+(l0).length≤LIM) <|
 some (Aw Int++l0)
theorem Vx {l0:(List Int)} {v:(List Int)} (h:Hw l0=some v):Ret Tryz.prog Lw [(slr false 1 Af) l0] ((slr true 1 Af) v):=by
 refine A5 Ao2 (Nat.le_of_ble_eq_true rfl) ?_
 unfold Hw at h
 refine BslQ.o Af (Aw Int) (by exact fun _=>⟨rfl,rfl⟩) (by first | rfl | (simp only [Aa,V.fz,fzL,V.up,upL,Ab,Ac,Ad,slr,List.cons_append,List.nil_append];done) | simp [Aa,V.fz,fzL,V.up,upL,Ab,Ac,Ad,slr])<|AppQ.o (m:=1) Af (by exact fun _=>⟨rfl,rfl⟩) (Aw Int) (l0) (by rfl) (by rfl) h fun h=> ?_
 cases h;exact (by rfl)
noncomputable def Cg (s0:List Int) (t0:List Int):Int→Option (Int ⊕ (Int ⊕ Unit)):=fun x5=>
 ((if x5<(↑s0.length:Int) then
 if x5<(↑t0.length:Int) then
 some (.inl ())
 else
 some (.inr ())
 else
 some (.inr ()):Option (Unit ⊕ Unit))).bind fun t=>match t with
 | (.inl _)=>(ask ((0:Int)≤x5∧x5<(↑s0.length:Int)) <|
 ask ((0:Int)≤x5∧x5<(↑t0.length:Int)) <|
 if nth s0 x5.toNat≠nth t0 x5.toNat then
 ask ((0:Int)≤x5∧x5<(↑s0.length:Int)) <|
 ask ((0:Int)≤x5∧x5<(↑t0.length:Int)) <|
 if nth s0 x5.toNat<nth t0 x5.toNat then
 some (.inr (.inl (-1:Int)))
 else
 some (.inr (.inl (1:Int)))
 else
 ask (InI (x5+(1:Int))) <|
 some (.inl (x5+(1:Int))))
 | (.inr _)=>(some (.inr (.inr ())))
def Hn (s0:List Int) (t0:List Int):Int→St:=fun s=>[(5,A.val (Af s)),(0,A.val ((slr false 1 Af) (s0))),(1,A.val ((slr false 1 Af) (t0)))]
def Lp (s0:List Int) (t0:List Int):(Int ⊕ Unit)→Tgt
 | (.inl s)=>(Ex.ret,[4],[(4,A.val (Af s))])
 | (.inr _s)=>((Ex.exit 0),[0,1],[(0,A.val ((slr false 1 Af) (s0))),(1,A.val ((slr false 1 Af) (t0)))])
theorem Wb {s0:List Int} {t0:List Int} (x5:Int) (o:Int ⊕ (Int ⊕ Unit)) (h:Cg s0 t0 x5=some o):vc Tryz.prog Lz (Dl [5,0,1] (Hn s0 t0) (Lp s0 t0) o) (Hn s0 t0 x5):=by
 unfold Cg at h
 try dsimp only at h
 refine CutQ.o (fun t:(Unit ⊕ Unit)=>match t with | (.inl s)=>(Ex.normal,[5,0,1],[(5,A.val (Af (x5))),(0,A.val ((slr false 1 Af) (s0))),(1,A.val ((slr false 1 Af) (t0)))]) | (.inr s)=>((Ex.exit 0),[0,1],[(0,A.val ((slr false 1 Af) (s0))),(1,A.val ((slr false 1 Af) (t0)))])) h ?_ ?_
 ·intro t h
  refine Len.map<|Br.od h (fun p1 h=> ?_) (fun p1 h=> ?_)
  ·refine Br.yes<|Br.yes<|Len.map<|Br.yes<|Br.yes<|Br.od h (fun p2 h=> ?_) (fun p2 h=> ?_)
   ·cases h;exact ⟨rfl,rfl⟩
   cases h;exact ⟨rfl,rfl⟩
  refine Br.no<|Br.no<|Br.no<|Br.no<|Br.no ?_
  cases h;exact ⟨rfl,rfl⟩
 rintro (⟨⟩ | ⟨⟩) h
 ·try dsimp only at h
  refine Len.map<|Ask.o h fun p4 h=>Elem.o (by first | omega | (simp [Ap] at * <;> omega))<|Len.map<|Ask.o h fun p5 h=>Elem.o (by first | omega | (simp [Ap] at * <;> omega))<|Br.on h (fun p6 h=> ?_) (fun p6 h=> ?_)
  ·refine Len.map<|Ask.o h fun p7 h=>Elem.o (by first | omega | (simp [Ap] at * <;> omega))<|Len.map<|Ask.o h fun p8 h=>Elem.o (by first | omega | (simp [Ap] at * <;> omega))<|Br.od h (fun p9 h=> ?_) (fun p9 h=> ?_)
   ·cases h;exact ⟨rfl,rfl⟩
   cases h;exact ⟨rfl,rfl⟩
  refine Ask.o h fun p10 h=> ?_
  cases h;exact ⟨rfl,rfl⟩
 try dsimp only at h
 cases h;exact ⟨rfl,rfl⟩
noncomputable def Fp (s0:(List Int)) (t0:(List Int)):Option Int:=
 (Al (Cg s0 t0) (0:Int)).bind fun t=>match t with
 | (.inl q11_4)=>(some q11_4)
 | (.inr _)=>(if (↑s0.length:Int)<(↑t0.length:Int) then
 some (-1:Int)
 else
 if (↑s0.length:Int)>(↑t0.length:Int) then
 some (1:Int)
 else
 some (0:Int))
theorem Zv {s0:(List Int)} {t0:(List Int)} {v:Int} (h:Fp s0 t0=some v):Ret Tryz.prog Jm [(slr false 1 Af) s0,(slr false 1 Af) t0] (Af v):=by
 refine A5 Zs (Nat.le_of_ble_eq_true rfl) ?_
 unfold Fp at h
 refine LoopQ.o [5,0,1] (Hn s0 t0) (Lp s0 t0) h (fun s o h=>Wb s o h) (by rfl) (by rintro (_ | _)<;>rfl) ?_
 rintro (q11_4 | ⟨⟩) h
 ·try dsimp only at h
  cases h;exact (by rfl)
 try dsimp only at h
 refine Len.map<|Len.map<|Br.od h (fun p12 h=> ?_) (fun p12 h=> ?_)
 ·cases h;exact (by rfl)
 refine Len.map<|Len.map<|Br.od h (fun p13 h=> ?_) (fun p13 h=> ?_)
 ·cases h;exact (by rfl)
 cases h;exact (by rfl)
end Go.Proofs.YtjcekpmojnnmbaaGreat.Ax
