/-
 What the functions compute, as functions on plain data, and that the program does compute it; written by program.
-/
import Derived.Test.YtpfikenknmlajaaCode
namespace Go.Proofs.Ytpfikenknmlajaa.Ax
open Go
set_option maxRecDepth 100000
set_option maxHeartbeats 4000000
noncomputable def Ay (self:Int→Int→List Bool→List Int→Option (Bool×List Bool×List Int)) (i0:Int) (a1:Int) (a3:Int→Int→Option Bool):(Int×(List Bool)×(List Int))→Option ((Int×(List Bool)×(List Int)) ⊕ (((List Bool)×(List Int)) ⊕ ((List Bool)×(List Int)))):=fun (x8,x47,x49)=>
 if x8<a1 then
 ((ask ((0:Int)≤x8∧x8<(↑x47.length:Int)) <|
 if (nth x47 x8.toNat)=true then
 some (.inl ())
 else
 (a3 (i0) (x8)).bind fun r4=>
 if (r4)=true then
 some (.inr ())
 else
 some (.inl ()):Option (Unit ⊕ Unit))).bind fun t=>match t with
 | (.inl _)=>(ask (InI (x8+(1:Int))) <|
 some (.inl (x8+(1:Int),x47,x49)))
 | (.inr _)=>(ask ((0:Int)≤x8∧x8<(↑x47.length:Int)) <|
 ask ((0:Int)≤x8∧x8<(↑x49.length:Int)) <|
 if nth x49 x8.toNat<(0:Int) then
 ask ((0:Int)≤x8∧x8<(↑x49.length:Int)) <|
 some (.inr (.inl (x47.set x8.toNat true,x49.set x8.toNat i0)))
 else
 ask ((0:Int)≤x8∧x8<(↑x49.length:Int)) <|
 (self (nth x49 x8.toNat) (a1) (x47.set x8.toNat true) (x49)).bind fun (r13,u14,u15)=>
 if (r13)=true then
 ask ((0:Int)≤x8∧x8<(↑u15.length:Int)) <|
 some (.inr (.inl (u14,u15.set x8.toNat i0)))
 else
 ask (InI (x8+(1:Int))) <|
 some (.inl (x8+(1:Int),u14,u15)))
 else
 some (.inr (.inr (x47,x49)))
def Mg (i0:Int) (a1:Int) (f_a3:Nat) (c_a3:List V):(Int×(List Bool)×(List Int))→St:=fun s=>[(8,A.val (Af s.1)),(5,A.tie false Cq [A.val (rP false Af a1),A.ref ((45:Nat)+((1:Nat)+(1:Nat))) [],A.val (V.ptr false (V.fclo f_a3 c_a3)),A.ref ((45:Nat)+((1:Nat)+(1:Nat)+(1:Nat)+(1:Nat))) []] []),(0,A.val (Af (i0))),(1,A.val ((rP false Af) (a1))),(2,A.ref 47 []),(47,A.val ((rP true (slr true 1 V.bool)) s.2.1)),(3,A.val (V.ptr false (V.fclo f_a3 c_a3))),(4,A.ref 49 []),(49,A.val ((rP true (slr true 1 Af)) s.2.2))]
def S4 (_i0:Int) (_a1:Int) (_f_a3:Nat) (_c_a3:List V):(((List Bool)×(List Int)) ⊕ ((List Bool)×(List Int)))→Tgt
 | (.inl s)=>(Ex.ret,[7,47,49],[(7,A.val (V.bool (true))),(47,A.val ((rP true (slr true 1 V.bool)) s.1)),(49,A.val ((rP true (slr true 1 Af)) s.2))])
 | (.inr s)=>((Ex.exit 0),[47,49],[(47,A.val ((rP true (slr true 1 V.bool)) s.1)),(49,A.val ((rP true (slr true 1 Af)) s.2))])
theorem Adk {self:Int→Int→List Bool→List Int→Option (Bool×List Bool×List Int)} {i0:Int} {a1:Int} {a3:Int→Int→Option Bool} {f_a3:Nat} {c_a3:List V} (h_a3 : ∀w_0 w_1 v,a3 w_0 w_1=some v→Ret Try.prog f_a3 ([Af w_0,Af w_1]++fzL c_a3) (V.bool v)) (hself : ∀ {w_0 w_1 w_2 w_4 v},self w_0 w_1 w_2 w_4=some v→Apo Try.prog Cq 1 4 [Af w_0,(rP false Af) w_1,(rP true (slr true 1 V.bool)) w_2,V.ptr false (V.fclo f_a3 c_a3),(rP true (slr true 1 Af)) w_4,V.dead] (V.bool v.1) 2 ((rP true (slr true 1 V.bool)) v.2.1) 4 ((rP true (slr true 1 Af)) v.2.2)) (s:(Int×(List Bool)×(List Int))) (o:(Int×(List Bool)×(List Int)) ⊕ (((List Bool)×(List Int)) ⊕ ((List Bool)×(List Int)))) (h:Ay self i0 a1 a3 s=some o):vc Try.prog Sz (Cc [8,5,0,1,2,47,3,4,49] (Mg i0 a1 f_a3 c_a3) (S4 i0 a1 f_a3 c_a3) o) (Mg i0 a1 f_a3 c_a3 s):=by
 obtain ⟨x8,x47,x49⟩:=s
 unfold Ay at h
 try dsimp only at h
 refine Br.od h (fun p1 h=> ?_) (fun p1 h=> ?_)
 ·refine CutQ.o (fun t:(Unit ⊕ Unit)=>match t with | (.inl s)=>((Ex.exit 1),[8,5,0,1,2,47,3,4,49],[(8,A.val (Af (x8))),(5,A.tie false Cq [A.val (rP false Af a1),A.ref ((45:Nat)+((1:Nat)+(1:Nat))) [],A.val (V.ptr false (V.fclo f_a3 c_a3)),A.ref ((45:Nat)+((1:Nat)+(1:Nat)+(1:Nat)+(1:Nat))) []] []),(0,A.val (Af (i0))),(1,A.val ((rP false Af) (a1))),(2,A.ref 47 []),(47,A.val ((rP true (slr true 1 V.bool)) (x47))),(3,A.val (V.ptr false (V.fclo f_a3 c_a3))),(4,A.ref 49 []),(49,A.val ((rP true (slr true 1 Af)) (x49)))]) | (.inr s)=>(Ex.normal,[8,5,0,1,2,47,3,4,49],[(8,A.val (Af (x8))),(5,A.tie false Cq [A.val (rP false Af a1),A.ref ((45:Nat)+((1:Nat)+(1:Nat))) [],A.val (V.ptr false (V.fclo f_a3 c_a3)),A.ref ((45:Nat)+((1:Nat)+(1:Nat)+(1:Nat)+(1:Nat))) []] []),(0,A.val (Af (i0))),(1,A.val ((rP false Af) (a1))),(2,A.ref 47 []),(47,A.val ((rP true (slr true 1 V.bool)) (x47))),(3,A.val (V.ptr false (V.fclo f_a3 c_a3))),(4,A.ref 49 []),(49,A.val ((rP true (slr true 1 Af)) (x49)))])) h ?_ ?_
  ·intro t h
   refine Cells.lit rfl rfl<|Kid.lit rfl rfl<|Len.map<|Ask.o h fun p2 h=>Kid.lit rfl rfl<|Cells.one (fun _=>⟨rfl,rfl⟩) (by first | omega | (simp [Ak] at * <;> omega))<|Br.ob h (fun p3 h=> ?_) (fun p3 h=> ?_)
   ·refine Br.yes<|Br.yes<|Br.yes<|Br.yes<|Br.yes<|Br.yes ?_
    cases h;exact ⟨rfl,rfl⟩
   refine Br.no<|Br.no<|Br.no<|CloQ.o V.bool (by rfl) (fun _=>by first | rfl | simp [Ea,V.noFz,Ct,Cu,NoFz.eq]) h (fun r h=>h_a3 _ _ _ h) (fun r4 h=> ?_)
   refine Br.no<|Br.no<|Br.flip<|Br.ob h (fun p5 h=> ?_) (fun p5 h=> ?_)
   ·cases h;exact ⟨rfl,rfl⟩
   cases h;exact ⟨rfl,rfl⟩
  rintro (⟨⟩ | ⟨⟩) h
  ·try dsimp only at h
   refine Ask.o h fun p7 h=> ?_
   cases h;exact ⟨rfl,rfl⟩
  try dsimp only at h
  refine Cells.lit rfl rfl<|Kid.lit rfl rfl<|Len.map<|Ask.o h fun p8 h=>Kid.lit rfl rfl<|SetKids.one (fun _=>⟨rfl,rfl⟩) (true) (by rfl) (by first | omega | (simp [Ak] at * <;> omega))<|Kid.lit rfl rfl<|SetKids.lit rfl<|Cells.lit rfl rfl<|Kid.lit rfl rfl<|Len.map<|Ask.o h fun p9 h=>Kid.lit rfl rfl<|Cells.one (fun _=>⟨rfl,rfl⟩) (by first | omega | (simp [Ak] at * <;> omega))<|Br.od h (fun p10 h=> ?_) (fun p10 h=> ?_)
  ·refine Br.yes<|Br.yes<|Br.yes<|Br.yes<|Br.yes<|Br.yes<|Br.yes<|Cells.lit rfl rfl<|Kid.lit rfl rfl<|Len.map<|Ask.o h fun p11 h=>Kid.lit rfl rfl<|SetKids.one (fun _=>⟨rfl,rfl⟩) (i0) (by rfl) (by first | omega | (simp [Ak] at * <;> omega))<|Kid.lit rfl rfl<|SetKids.lit rfl ?_
   cases h;exact ⟨rfl,rfl⟩
  refine Br.no<|Cells.lit rfl rfl<|Br.no<|Br.no<|Kid.lit rfl rfl<|Len.map<|Ask.o h fun p12 h=>Br.no<|Kid.lit rfl rfl<|Cells.one (fun _=>⟨rfl,rfl⟩) (by first | omega | (simp [Ak] at * <;> omega))<|Br.no<|CallT.io2 V.bool (rP true (slr true 1 V.bool)) (rP true (slr true 1 Af)) (by rfl) rfl rfl (fun _=>rfl) (fun _=>⟨rfl,rfl⟩) (fun _=>⟨rfl,rfl⟩) rfl rfl h (fun r h=>hself h) (fun r13 u14 u15 h=> ?_)
  refine Br.no<|Br.ob h (fun p16 h=> ?_) (fun p16 h=> ?_)
  ·refine Cells.lit rfl rfl<|Kid.lit rfl rfl<|Len.map<|Ask.o h fun p17 h=>Kid.lit rfl rfl<|SetKids.one (fun _=>⟨rfl,rfl⟩) (i0) (by rfl) (by first | omega | (simp [Ak] at * <;> omega))<|Kid.lit rfl rfl<|SetKids.lit rfl ?_
   cases h;exact ⟨rfl,rfl⟩
  refine Ask.o h fun p18 h=> ?_
  cases h;exact ⟨rfl,rfl⟩
 cases h;exact ⟨rfl,rfl⟩
noncomputable def Ck (self:Int→Int→(List Bool)→(List Int)→Option (Bool×(List Bool)×(List Int))) (i0:Int) (a1:Int) (a2:(List Bool)) (a3:(Int→Int→Option Bool)) (a4:(List Int)):Option (Bool×(List Bool)×(List Int)):=
 (Aj (Ay self i0 a1 a3) ((0:Int),a2,a4)).bind fun t=>match t with
 | (.inl (q19_47,q19_49))=>(some (true,q19_47,q19_49))
 | (.inr (q19_47,q19_49))=>(some (false,q19_47,q19_49))
noncomputable def Bd (a3:(Int→Int→Option Bool)):Nat→Int→Int→(List Bool)→(List Int)→Option (Bool×(List Bool)×(List Int))
 | 0=>fun _ _ _ _=>none
 | n+1=>fun i0 a1 a2 a4=>Ck (Bd a3 n) i0 a1 a2 a3 a4
theorem Af9 {self:Int→Int→(List Bool)→(List Int)→Option (Bool×(List Bool)×(List Int))} {i0:Int} {a1:Int} {a2:(List Bool)} {a3:(Int→Int→Option Bool)} {a4:(List Int)} {f_a3:Nat} {c_a3:List V} (h_a3 : ∀w_0 w_1 v,a3 w_0 w_1=some v→Ret Try.prog f_a3 ([Af w_0,Af w_1]++fzL c_a3) (V.bool v)) (hself : ∀ {w_0 w_1 w_2 w_4 v},self w_0 w_1 w_2 w_4=some v→Apo Try.prog Cq 1 4 [Af w_0,(rP false Af) w_1,(rP true (slr true 1 V.bool)) w_2,V.ptr false (V.fclo f_a3 c_a3),(rP true (slr true 1 Af)) w_4,V.dead] (V.bool v.1) 2 ((rP true (slr true 1 V.bool)) v.2.1) 4 ((rP true (slr true 1 Af)) v.2.2)) {v:(Bool×(List Bool)×(List Int))} (h:Ck self i0 a1 a2 a3 a4=some v):Apo Try.prog Cq 1 4 [Af i0,(rP false Af) a1,(rP true (slr true 1 V.bool)) a2,V.ptr false (V.fclo f_a3 c_a3),(rP true (slr true 1 Af)) a4,V.dead] (V.bool v.1) 2 ((rP true (slr true 1 V.bool)) v.2.1) 4 ((rP true (slr true 1 Af)) v.2.2):=by
 refine A3q Ajl (Nat.le_of_ble_eq_true rfl) (Nat.le_of_ble_eq_true rfl) ?_
 unfold Ck at h
 refine LoopQ.o [8,5,0,1,2,47,3,4,49] (Mg i0 a1 f_a3 c_a3) (S4 i0 a1 f_a3 c_a3) h (fun s o h=>Adk h_a3 hself s o h) (by rfl) (by rintro (_ | _)<;>rfl) ?_
 rintro (⟨q19_47,q19_49⟩ | ⟨q19_47,q19_49⟩) h
 ·try dsimp only at h
  cases h;exact ⟨(by rfl),(by rfl),(by rfl)⟩
 try dsimp only at h
 cases h;exact ⟨(by rfl),(by rfl),(by rfl)⟩
theorem Ue {a3:(Int→Int→Option Bool)} {f_a3:Nat} {c_a3:List V} (h_a3 : ∀w_0 w_1 v,a3 w_0 w_1=some v→Ret Try.prog f_a3 ([Af w_0,Af w_1]++fzL c_a3) (V.bool v)) : ∀(n:Nat) {i0:Int} {a1:Int} {a2:(List Bool)} {a4:(List Int)} {v:(Bool×(List Bool)×(List Int))},Bd a3 n i0 a1 a2 a4=some v→Apo Try.prog Cq 1 4 [Af i0,(rP false Af) a1,(rP true (slr true 1 V.bool)) a2,V.ptr false (V.fclo f_a3 c_a3),(rP true (slr true 1 Af)) a4,V.dead] (V.bool v.1) 2 ((rP true (slr true 1 V.bool)) v.2.1) 4 ((rP true (slr true 1 Af)) v.2.2)
 | 0,_,_,_,_,_,h=>by cases h
 | n+1,_,_,_,_,_,h=>Af9 h_a3 (fun h=>Ue h_a3 n h) h
theorem Akh {i0:Int} {a1:Int} {a2:(List Bool)} {a3:(Int→Int→Option Bool)} {a4:(List Int)} {f_a3:Nat} {c_a3:List V} (h_a3 : ∀w_0 w_1 v,a3 w_0 w_1=some v→Ret Try.prog f_a3 ([Af w_0,Af w_1]++fzL c_a3) (V.bool v)) {v:(Bool×(List Bool)×(List Int))} (h:(Afn fun n=>Bd a3 n i0 a1 a2 a4)=some v):Apo Try.prog Cq 1 4 [Af i0,(rP false Af) a1,(rP true (slr true 1 V.bool)) a2,V.ptr false (V.fclo f_a3 c_a3),(rP true (slr true 1 Af)) a4,V.dead] (V.bool v.1) 2 ((rP true (slr true 1 V.bool)) v.2.1) 4 ((rP true (slr true 1 Af)) v.2.2):=by
 obtain ⟨n,hn⟩:=Aj4 h
 exact Ue h_a3 n hn
end Go.Proofs.Ytpfikenknmlajaa.Ax
