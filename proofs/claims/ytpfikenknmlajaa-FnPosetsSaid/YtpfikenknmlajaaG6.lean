/-
 What the functions compute, as functions on plain data, and that the program does compute it; written by program.
-/
import Derived.Test.YtpfikenknmlajaaCode
import Derived.Test.YtpfikenknmlajaaG1
import Derived.Test.YtpfikenknmlajaaG2
import Derived.Test.YtpfikenknmlajaaG3
import Derived.Test.YtpfikenknmlajaaG4
namespace Go.Proofs.Ytpfikenknmlajaa.Ax
open Go
set_option maxRecDepth 100000
set_option maxHeartbeats 4000000
noncomputable def Dn (o0:List (List Bool)) (x11:Int):(Int×(List (List Bool)))→Option ((Int×(List (List Bool))) ⊕ (List (List Bool))):=fun (x16,x3')=>
 if x16<(↑o0.length:Int) then
 ask ((0:Int)≤x11∧x11<(↑x3'.length:Int)) <|
 ask ((0:Int)≤x16∧x16<(↑o0.length:Int)) <|
 ask ((0:Int)≤x11∧x11<(↑(nth o0 x16.toNat).length:Int)) <|
 ask ((0:Int)≤x16∧x16<(↑(nth x3' x11.toNat).length:Int)) <|
 ask (InI (x16+(1:Int))) <|
 some (.inl (x16+(1:Int),x3'.set x11.toNat ((nth x3' x11.toNat).set x16.toNat (nth (nth o0 x16.toNat) x11.toNat))))
 else
 some (.inr x3')
def Kw (o0:List (List Bool)) (x11:Int):(Int×(List (List Bool)))→St:=fun s=>[(16,A.val (Af s.1)),(15,A.val (Af ((↑o0.length:Int)))),(4,A.val (Af (x11))),(11,A.val (Af (x11))),(10,A.val (Af ((↑o0.length:Int)))),(3,A.val ((slr true 1 (slr true 1 V.bool)) s.2)),(0,A.val ((slr false 1 (slr false 1 V.bool)) (o0)))]
def Ro (o0:List (List Bool)) (x11:Int):(List (List Bool))→Tgt
 | s=>((Ex.exit 2),[11,10,3,0],[(11,A.val (Af (x11))),(10,A.val (Af ((↑o0.length:Int)))),(3,A.val ((slr true 1 (slr true 1 V.bool)) s)),(0,A.val ((slr false 1 (slr false 1 V.bool)) (o0)))])
theorem Aca {o0:List (List Bool)} {x11:Int} (s:(Int×(List (List Bool)))) (o:(Int×(List (List Bool))) ⊕ (List (List Bool))) (h:Dn o0 x11 s=some o):vc Try.prog Rr (Cc [16,15,4,11,10,3,0] (Kw o0 x11) (Ro o0 x11) o) (Kw o0 x11 s):=by
 obtain ⟨x16,x3'⟩:=s
 unfold Dn at h
 try dsimp only at h
 refine Br.od h (fun p3 h=> ?_) (fun p3 h=> ?_)
 ·refine Len.map<|Ask.o h fun p4 h=>Cells.one (fun _=>⟨rfl,rfl⟩) (by first | omega | (simp [Ak] at * <;> omega))<|Len.map<|Ask.o h fun p5 h=>Elem.o (by first | omega | (simp [Ak] at * <;> omega))<|Len.map<|Ask.o h fun p6 h=>Elem.o (by first | omega | (simp [Ak] at * <;> omega))<|Kid.one (fun _=>⟨rfl,rfl⟩) (by first | omega | (simp [Ak] at * <;> omega))<|Len.map<|Ask.o h fun p7 h=>Kid.one (fun _=>⟨rfl,rfl⟩) (by first | omega | (simp [Ak] at * <;> omega))<|SetKids.one (fun _=>⟨rfl,rfl⟩) (nth (nth o0 x16.toNat) x11.toNat) (by rfl) (by first | omega | (simp [Ak] at * <;> omega))<|Kid.one (fun _=>⟨rfl,rfl⟩) (by first | omega | (simp [Ak] at * <;> omega))<|SetKids.one (fun _=>⟨rfl,rfl⟩) ((nth x3' x11.toNat).set x16.toNat (nth (nth o0 x16.toNat) x11.toNat)) (by rfl) (by first | omega | (simp [Ak] at * <;> omega))<|Ask.o h fun p8 h=> ?_
  cases h;exact ⟨rfl,rfl⟩
 cases h;exact ⟨rfl,rfl⟩
noncomputable def Dh (o0:List (List Bool)):(Int×(List (List Bool)))→Option ((Int×(List (List Bool))) ⊕ (List (List Bool))):=fun (x11,x3)=>
 if x11<(↑o0.length:Int) then
 (Aj (Dn o0 x11) ((0:Int),x3)).bind fun q9_3=>
 ask (InI (x11+(1:Int))) <|
 some (.inl (x11+(1:Int),q9_3))
 else
 some (.inr x3)
def Lp (o0:List (List Bool)):(Int×(List (List Bool)))→St:=fun s=>[(11,A.val (Af s.1)),(10,A.val (Af ((↑o0.length:Int)))),(3,A.val ((slr true 1 (slr true 1 V.bool)) s.2)),(0,A.val ((slr false 1 (slr false 1 V.bool)) (o0)))]
def R2 (_o0:List (List Bool)):(List (List Bool))→Tgt
 | s=>((Ex.exit 0),[3],[(3,A.val ((slr true 1 (slr true 1 V.bool)) s))])
theorem Acy {o0:List (List Bool)} (s:(Int×(List (List Bool)))) (o:(Int×(List (List Bool))) ⊕ (List (List Bool))) (h:Dh o0 s=some o):vc Try.prog Rv (Cc [11,10,3,0] (Lp o0) (R2 o0) o) (Lp o0 s):=by
 obtain ⟨x11,x3⟩:=s
 unfold Dh at h
 try dsimp only at h
 refine Br.od h (fun p2 h=> ?_) (fun p2 h=> ?_)
 ·refine Len.map<|LoopQ.o [16,15,4,11,10,3,0] (Kw o0 x11) (Ro o0 x11) h (fun s o h=>Aca s o h) (by rfl) (fun _=>rfl) ?_
  rintro q9_3 h
  try dsimp only at h
  refine Ask.o h fun p10 h=> ?_
  cases h;exact ⟨rfl,rfl⟩
 cases h;exact ⟨rfl,rfl⟩
noncomputable def Ij (o0:(List (List Bool))):Option (List (List Bool)):=
 (Gw ((↑o0.length:Int))).bind fun r1=>
 (Aj (Dh o0) ((0:Int),r1)).bind fun q11_3=>
 some q11_3
theorem Ag3 {o0:(List (List Bool))} {v:(List (List Bool))} (h:Ij o0=some v):Ret Try.prog Oo [(slr false 1 (slr false 1 V.bool)) o0] ((slr true 1 (slr true 1 V.bool)) v):=by
 refine A6 Ag1 (Nat.le_of_ble_eq_true rfl) ?_
 unfold Ij at h
 refine Len.map<|CallQ.o (slr true 1 (slr true 1 V.bool)) (by rfl) h (fun r h=>So h) (fun r1 h=> ?_)
 refine Len.map<|LoopQ.o [11,10,3,0] (Lp o0) (R2 o0) h (fun s o h=>Acy s o h) (by rfl) (fun _=>rfl) ?_
 rintro q11_3 h
 try dsimp only at h
 cases h;exact (by rfl)
noncomputable def E6 (o0:(List (List Bool))) (so0:(Int→Option Bool)):Option Bool:=
 (Ej (o0) so0).bind fun r1=>
 some ((↑r1.length:Int)==(0:Int))
theorem Pr {o0:(List (List Bool))} {so0:(Int→Option Bool)} {f_so0:Nat} {c_so0:List V} (h_so0 : ∀w_0 v,so0 w_0=some v→Ret Try.prog f_so0 ([Af w_0]++fzL c_so0) (V.bool v)) {v:Bool} (h:E6 o0 so0=some v):Ret Try.prog Id [(slr false 1 (slr false 1 V.bool)) o0,V.fclo f_so0 c_so0] (V.bool v):=by
 refine A6 Ahe (Nat.le_of_ble_eq_true rfl) ?_
 unfold E6 at h
 refine CallQ.o (slr true 1 Af) (by rfl) h (fun r h=>M2 h_so0 h) (fun r1 h=> ?_)
 refine Len.map ?_
 cases h;exact (by rfl)
noncomputable def Gd (y0:Int) (a1:(List (List Bool))) (a2:Int) (a3:Int):Option Bool:=
 (Au (a1) (y0) (a2)).bind fun r1=>
 if (r1)=true then
 ask ((0:Int)≤y0) <|
 some (Ahh (Adn a3 y0) (1:Int)==(0:Int))
 else
 some false
theorem Xn {y0:Int} {a1:(List (List Bool))} {a2:Int} {a3:Int} {v:Bool} (h:Gd y0 a1 a2 a3=some v):Ret Try.prog Ga [Af y0,(rP false (slr false 1 (slr false 1 V.bool))) a1,(rP false Af) a2,(rP false Af) a3] (V.bool v):=by
 refine A6 Xk (Nat.le_of_ble_eq_true rfl) ?_
 unfold Gd at h
 refine CallQ.o V.bool (by rfl) h (fun r h=>Bo h) (fun r1 h=> ?_)
 refine Br.ob h (fun p2 h=> ?_) (fun p2 h=> ?_)
 ·refine Br.yes<|Br.yes<|Ask.o h fun p3 h=>Br.yes<|Br.yes<|Br.yes ?_
  cases h;exact (by rfl)
 refine Br.no<|Br.no<|Br.no<|Br.no<|Br.no ?_
 cases h;exact (by rfl)
noncomputable def Fh (y0:Int) (a1:(List (List Bool))) (a2:Int):Option Bool:=
 (Au (a1) (y0) (a2)).bind fun r1=>
 some r1
theorem U5 {y0:Int} {a1:(List (List Bool))} {a2:Int} {v:Bool} (h:Fh y0 a1 a2=some v):Ret Try.prog Ew [Af y0,(rP false (slr false 1 (slr false 1 V.bool))) a1,(rP false Af) a2] (V.bool v):=by
 refine A6 T7 (Nat.le_of_ble_eq_true rfl) ?_
 unfold Fh at h
 refine CallQ.o V.bool (by rfl) h (fun r h=>Bo h) (fun r1 h=> ?_)
 cases h;exact (by rfl)
noncomputable def Fa (y0:Int) (a1:(List (List Bool))) (a2:Int):Option Bool:=
 (Au (a1) (a2) (y0)).bind fun r1=>
 some r1
theorem U4 {y0:Int} {a1:(List (List Bool))} {a2:Int} {v:Bool} (h:Fa y0 a1 a2=some v):Ret Try.prog E1 [Af y0,(rP false (slr false 1 (slr false 1 V.bool))) a1,(rP false Af) a2] (V.bool v):=by
 refine A6 T0 (Nat.le_of_ble_eq_true rfl) ?_
 unfold Fa at h
 refine CallQ.o V.bool (by rfl) h (fun r h=>Bo h) (fun r1 h=> ?_)
 cases h;exact (by rfl)
noncomputable def Eg (l0:List Int) (lo0:Int) (hi0:Int):Int→Option (Int ⊕ (Unit ⊕ Unit)):=fun x7=>
 if x7<(↑l0.length:Int) then
 ask ((0:Int)≤x7∧x7<(↑l0.length:Int)) <|
 (Nq (nth l0 x7.toNat) (lo0) (hi0)).bind fun r3=>
 if (r3)=true then
 if x7>(0:Int) then
 ask (InI (x7-(1:Int))) <|
 ask ((0:Int)≤x7-(1:Int)∧x7-(1:Int)<(↑l0.length:Int)) <|
 ask ((0:Int)≤x7∧x7<(↑l0.length:Int)) <|
 if nth l0 (x7-(1:Int)).toNat≥nth l0 x7.toNat then
 some (.inr (.inl ()))
 else
 ask (InI (x7+(1:Int))) <|
 some (.inl (x7+(1:Int)))
 else
 ask (InI (x7+(1:Int))) <|
 some (.inl (x7+(1:Int)))
 else
 some (.inr (.inl ()))
 else
 some (.inr (.inr ()))
def M5 (l0:List Int) (lo0:Int) (hi0:Int):Int→St:=fun s=>[(7,A.val (Af s)),(0,A.val ((slr false 1 Af) (l0))),(1,A.val (Af (lo0))),(2,A.val (Af (hi0)))]
def Uo (_l0:List Int) (_lo0:Int) (_hi0:Int):(Unit ⊕ Unit)→Tgt
 | (.inl _s)=>(Ex.ret,[6],[(6,A.val (V.bool (false)))])
 | (.inr _s)=>((Ex.exit 0),[],[])
theorem Afg {l0:List Int} {lo0:Int} {hi0:Int} (x7:Int) (o:Int ⊕ (Unit ⊕ Unit)) (h:Eg l0 lo0 hi0 x7=some o):vc Try.prog Up (Cc [7,0,1,2] (M5 l0 lo0 hi0) (Uo l0 lo0 hi0) o) (M5 l0 lo0 hi0 x7):=by
 unfold Eg at h
 try dsimp only at h
 refine Len.map<|Br.od h (fun p1 h=> ?_) (fun p1 h=> ?_)
 ·refine Len.map<|Ask.o h fun p2 h=>Elem.o (by first | omega | (simp [Ak] at * <;> omega))<|CallP.o V.bool (by rfl) h (fun r h=>Ald h) (fun r3 h=> ?_)
  refine Br.flip<|Br.ob h (fun p4 h=> ?_) (fun p4 h=> ?_)
  ·refine Br.no<|Br.no<|Br.od h (fun p5 h=> ?_) (fun p5 h=> ?_)
   ·refine Br.yes<|Br.yes<|Ask.o h fun p6 h=>Br.yes<|Len.map<|Ask.o h fun p7 h=>Elem.o (by first | omega | (simp [Ak] at * <;> omega))<|Br.yes<|Br.yes<|Br.yes<|Br.yes<|Len.map<|Ask.o h fun p8 h=>Elem.o (by first | omega | (simp [Ak] at * <;> omega))<|Br.yes<|Br.yes<|Br.no<|Br.yes<|Br.no<|Br.od h (fun p9 h=> ?_) (fun p9 h=> ?_)
    ·cases h;exact ⟨rfl,rfl⟩
    refine Ask.o h fun p10 h=> ?_
    cases h;exact ⟨rfl,rfl⟩
   refine Br.no<|Br.no<|Br.no<|Br.no<|Br.no<|Br.no<|Br.no<|Br.no<|Br.no<|Br.no<|Br.no<|Br.no<|Br.no<|Ask.o h fun p11 h=> ?_
   cases h;exact ⟨rfl,rfl⟩
  refine Br.yes<|Br.yes<|Br.yes<|Br.yes<|Br.yes ?_
  cases h;exact ⟨rfl,rfl⟩
 cases h;exact ⟨rfl,rfl⟩
noncomputable def J1 (l0:(List Int)) (lo0:Int) (hi0:Int):Option Bool:=
 (Aj (Eg l0 lo0 hi0) (0:Int)).bind fun t=>match t with
 | (.inl _)=>(some false)
 | (.inr _)=>(some true)
theorem Alo {l0:(List Int)} {lo0:Int} {hi0:Int} {v:Bool} (h:J1 l0 lo0 hi0=some v):Ret Try.prog Sl [(slr false 1 Af) l0,Af lo0,Af hi0] (V.bool v):=by
 refine A6 Al3 (Nat.le_of_ble_eq_true rfl) ?_
 unfold J1 at h
 refine LoopQ.o [7,0,1,2] (M5 l0 lo0 hi0) (Uo l0 lo0 hi0) h (fun s o h=>Afg s o h) (by rfl) (by rintro (_ | _)<;>rfl) ?_
 rintro (⟨⟩ | ⟨⟩) h
 ·try dsimp only at h
  cases h;exact (by rfl)
 try dsimp only at h
 cases h;exact (by rfl)
noncomputable def Ee (x0:List Int) (y0:List Int):Int→Option (Int ⊕ (Unit ⊕ Unit)):=fun x5=>
 if x5<(↑x0.length:Int) then
 ask ((0:Int)≤x5∧x5<(↑x0.length:Int)) <|
 (Ii (y0) (nth x0 x5.toNat)).bind fun r3=>
 if (r3)=true then
 ask (InI (x5+(1:Int))) <|
 some (.inl (x5+(1:Int)))
 else
 some (.inr (.inl ()))
 else
 some (.inr (.inr ()))
def M7 (x0:List Int) (y0:List Int):Int→St:=fun s=>[(5,A.val (Af s)),(0,A.val ((slr false 1 Af) (x0))),(1,A.val ((slr false 1 Af) (y0)))]
def Tw (_x0:List Int) (_y0:List Int):(Unit ⊕ Unit)→Tgt
 | (.inl _s)=>(Ex.ret,[4],[(4,A.val (V.bool (false)))])
 | (.inr _s)=>((Ex.exit 0),[],[])
theorem Aga {x0:List Int} {y0:List Int} (x5:Int) (o:Int ⊕ (Unit ⊕ Unit)) (h:Ee x0 y0 x5=some o):vc Try.prog Uu (Cc [5,0,1] (M7 x0 y0) (Tw x0 y0) o) (M7 x0 y0 x5):=by
 unfold Ee at h
 try dsimp only at h
 refine Len.map<|Br.od h (fun p1 h=> ?_) (fun p1 h=> ?_)
 ·refine Len.map<|Ask.o h fun p2 h=>Elem.o (by first | omega | (simp [Ak] at * <;> omega))<|CallQ.o V.bool (by rfl) h (fun r h=>Tc h) (fun r3 h=> ?_)
  refine Br.flip<|Br.ob h (fun p4 h=> ?_) (fun p4 h=> ?_)
  ·refine Ask.o h fun p5 h=> ?_
   cases h;exact ⟨rfl,rfl⟩
  cases h;exact ⟨rfl,rfl⟩
 cases h;exact ⟨rfl,rfl⟩
noncomputable def H6 (x0:(List Int)) (y0:(List Int)):Option Bool:=
 (Aj (Ee x0 y0) (0:Int)).bind fun t=>match t with
 | (.inl _)=>(some false)
 | (.inr _)=>(some true)
theorem Aa9 {x0:(List Int)} {y0:(List Int)} {v:Bool} (h:H6 x0 y0=some v):Ret Try.prog Sq [(slr false 1 Af) x0,(slr false 1 Af) y0] (V.bool v):=by
 refine A6 Alm (Nat.le_of_ble_eq_true rfl) ?_
 unfold H6 at h
 refine LoopQ.o [5,0,1] (M7 x0 y0) (Tw x0 y0) h (fun s o h=>Aga s o h) (by rfl) (by rintro (_ | _)<;>rfl) ?_
 rintro (⟨⟩ | ⟨⟩) h
 ·try dsimp only at h
  cases h;exact (by rfl)
 try dsimp only at h
 cases h;exact (by rfl)
noncomputable def Gc (p0:SPoset) (x0:Int) (y0:Int):Option Bool:=
 ask ((0:Int)≤y0∧y0<(↑p0.Below.length:Int)) <|
 (Ii (nth p0.Below y0.toNat) (x0)).bind fun r2=>
 some r2
theorem Rj {p0:SPoset} {x0:Int} {y0:Int} {v:Bool} (h:Gc p0 x0 y0=some v):Ret Try.prog J9 [(Ag false) p0,Af x0,Af y0] (V.bool v):=by
 refine A6 Aqr (Nat.le_of_ble_eq_true rfl) ?_
 unfold Gc at h
 refine Cells.lit rfl rfl<|Len.map<|Ask.o h fun p1 h=>Elem.o (by first | omega | (simp [Ak] at * <;> omega))<|CallQ.o V.bool (by rfl) h (fun r h=>Tc h) (fun r2 h=> ?_)
 cases h;exact (by rfl)
noncomputable def Et (n0:Int):(Int×(List Int))→Option ((Int×(List Int)) ⊕ (List Int)):=fun (x15,x5)=>
 if x15<(↑n0.toNat:Int) then
 ask ((0:Int)≤x15∧x15<(↑x5.length:Int)) <|
 ask (InI (x15+(1:Int))) <|
 some (.inl (x15+(1:Int),x5.set x15.toNat (-1:Int)))
 else
 some (.inr x5)
def P1 (n0:Int) (f_less0:Nat) (c_less0:List V):(Int×(List Int))→St:=fun s=>[(15,A.val (Af s.1)),(14,A.val (Af ((↑n0.toNat:Int)))),(5,A.val ((rP true (slr true 1 Af)) s.2)),(3,A.val (V.ptr true (V.fclo f_less0 c_less0).up)),(2,A.val ((rP true Af) (n0)))]
def Wq (n0:Int) (f_less0:Nat) (c_less0:List V):(List Int)→Tgt
 | s=>((Ex.exit 0),[5,3,2],[(5,A.val ((rP true (slr true 1 Af)) s)),(3,A.val (V.ptr true (V.fclo f_less0 c_less0).up)),(2,A.val ((rP true Af) (n0)))])
theorem Ai7 {n0:Int} {f_less0:Nat} {c_less0:List V} (s:(Int×(List Int))) (o:(Int×(List Int)) ⊕ (List Int)) (h:Et n0 s=some o):vc Try.prog V4 (Cc [15,14,5,3,2] (P1 n0 f_less0 c_less0) (Wq n0 f_less0 c_less0) o) (P1 n0 f_less0 c_less0 s):=by
 obtain ⟨x15,x5⟩:=s
 unfold Et at h
 try dsimp only at h
 refine Br.od h (fun p2 h=> ?_) (fun p2 h=> ?_)
 ·refine Cells.lit rfl rfl<|Kid.lit rfl rfl<|Len.map<|Ask.o h fun p3 h=>Kid.lit rfl rfl<|SetKids.one (fun _=>⟨rfl,rfl⟩) ((-1:Int)) (by rfl) (by first | omega | (simp [Ak] at * <;> omega))<|Kid.lit rfl rfl<|SetKids.lit rfl<|Ask.o h fun p4 h=> ?_
  cases h;exact ⟨rfl,rfl⟩
 cases h;exact ⟨rfl,rfl⟩
noncomputable def H9 (n0:Int) (less0:Int→Int→Option Bool):(Int×Int×(List Bool)×(List Int))→Option ((Int×Int×(List Bool)×(List Int)) ⊕ Int):=fun (x10,x9,_x7,x5)=>
 if x10<n0 then
 ask ((0:Int)≤n0∧n0≤(↑LIM:Int)) <|
 (Afn fun n=>Bd less0 n (x10) (n0) (List.replicate n0.toNat false) (x5)).bind fun (r8,u9,u10)=>
 if (r8)=true then
 ask (InI (x9-(1:Int))) <|
 ask (InI (x10+(1:Int))) <|
 some (.inl (x10+(1:Int),x9-(1:Int),u9,u10))
 else
 ask (InI (x10+(1:Int))) <|
 some (.inl (x10+(1:Int),x9,u9,u10))
 else
 some (.inr x9)
def Pu (n0:Int) (f_less0:Nat) (c_less0:List V):(Int×Int×(List Bool)×(List Int))→St:=fun s=>[(10,A.val (Af s.1)),(9,A.val (Af s.2.1)),(8,A.tie false Cq [A.ref (2:Nat) [],A.ref (7:Nat) [],A.ref (3:Nat) [],A.ref (5:Nat) []] []),(7,A.val ((rP true (slr true 1 V.bool)) s.2.2.1)),(2,A.val ((rP true Af) (n0))),(3,A.val (V.ptr true (V.fclo f_less0 c_less0).up)),(5,A.val ((rP true (slr true 1 Af)) s.2.2.2))]
def Wb (_n0:Int) (_f_less0:Nat) (_c_less0:List V):Int→Tgt
 | s=>((Ex.exit 2),[9],[(9,A.val (Af s))])
theorem Aho {n0:Int} {less0:Int→Int→Option Bool} {f_less0:Nat} {c_less0:List V} (h_less0 : ∀w_0 w_1 v,less0 w_0 w_1=some v→Ret Try.prog f_less0 ([Af w_0,Af w_1]++fzL c_less0) (V.bool v)) (s:(Int×Int×(List Bool)×(List Int))) (o:(Int×Int×(List Bool)×(List Int)) ⊕ Int) (h:H9 n0 less0 s=some o):vc Try.prog Vw (Cc [10,9,8,7,2,3,5] (Pu n0 f_less0 c_less0) (Wb n0 f_less0 c_less0) o) (Pu n0 f_less0 c_less0 s):=by
 obtain ⟨x10,x9,x7,x5⟩:=s
 unfold H9 at h
 try dsimp only at h
 refine Cells.lit rfl rfl<|Br.od h (fun p6 h=> ?_) (fun p6 h=> ?_)
 ·refine Cells.lit rfl rfl<|Ask.o h fun p7 h=>MkQ.o V.bool (false) rfl<|SetKids.lit rfl<|CallT.io2 V.bool (rP true (slr true 1 V.bool)) (rP true (slr true 1 Af)) (by rfl) rfl rfl (fun _=>rfl) (fun _=>⟨by first | rfl | simp [Ea,V.noFz,Cu],rfl⟩) (fun _=>⟨by first | rfl | simp [Ea,V.noFz,Cu],rfl⟩) rfl rfl h (fun r h=>Akh h_less0 h) (fun r8 u9 u10 h=> ?_)
  refine Br.ob h (fun p11 h=> ?_) (fun p11 h=> ?_)
  ·refine Ask.o h fun p12 h=>Ask.o h fun p13 h=> ?_
   cases h;exact ⟨rfl,rfl⟩
  refine Ask.o h fun p14 h=> ?_
  cases h;exact ⟨rfl,rfl⟩
 cases h;exact ⟨rfl,rfl⟩
noncomputable def Ln (n0:Int) (less0:(Int→Int→Option Bool)):Option Int:=
 ask ((0:Int)≤n0∧n0≤(↑LIM:Int)) <|
 (Aj (Et n0) ((0:Int),List.replicate n0.toNat (0:Int))).bind fun q5_5=>
 (Aj (H9 n0 less0) ((0:Int),n0,Ar Bool,q5_5)).bind fun q15_9=>
 some q15_9
theorem Aol {n0:Int} {less0:(Int→Int→Option Bool)} {f_less0:Nat} {c_less0:List V} (h_less0 : ∀w_0 w_1 v,less0 w_0 w_1=some v→Ret Try.prog f_less0 ([Af w_0,Af w_1]++fzL c_less0) (V.bool v)) {v:Int} (h:Ln n0 less0=some v):Ret Try.prog Uq [Af n0,V.fclo f_less0 c_less0] (Af v):=by
 refine A6 Ao7 (Nat.le_of_ble_eq_true rfl) ?_
 unfold Ln at h
 refine Cells.lit rfl rfl<|Ask.o h fun p1 h=>MkQ.o Af ((0:Int)) rfl<|SetKids.lit rfl<|Cells.lit rfl rfl<|Kid.lit rfl rfl<|Len.mrep<|LoopQ.o [15,14,5,3,2] (P1 n0 f_less0 c_less0) (Wq n0 f_less0 c_less0) h (fun s o h=>Ai7 s o h) (by rfl) (fun _=>rfl) ?_
 rintro q5_5 h
 try dsimp only at h
 refine Cells.lit rfl rfl<|LoopQ.o [10,9,8,7,2,3,5] (Pu n0 f_less0 c_less0) (Wb n0 f_less0 c_less0) h (fun s o h=>Aho h_less0 s o h) (by rfl) (fun _=>rfl) ?_
 rintro q15_9 h
 try dsimp only at h
 cases h;exact (by rfl)
noncomputable def Fs (x0:Int) (y0:Int) (a2:(List Int)) (a3:(List (List Bool))):Option Bool:=
 ask ((0:Int)≤x0∧x0<(↑a2.length:Int)) <|
 if nth a2 x0.toNat≠(-2:Int) then
 ask ((0:Int)≤x0∧x0<(↑a2.length:Int)) <|
 some (nth a2 x0.toNat==y0)
 else
 (Au (a3) (x0) (y0)).bind fun r4=>
 some r4
theorem Abk {x0:Int} {y0:Int} {a2:(List Int)} {a3:(List (List Bool))} {v:Bool} (h:Fs x0 y0 a2 a3=some v):Ret Try.prog Hw [Af x0,Af y0,(rP false (slr false 1 Af)) a2,(rP false (slr false 1 (slr false 1 V.bool))) a3] (V.bool v):=by
 refine A6 Abg (Nat.le_of_ble_eq_true rfl) ?_
 unfold Fs at h
 refine Len.map<|Ask.o h fun p1 h=>Elem.o (by first | omega | (simp [Ak] at * <;> omega))<|Br.on h (fun p2 h=> ?_) (fun p2 h=> ?_)
 ·refine Len.map<|Ask.o h fun p3 h=>Elem.o (by first | omega | (simp [Ak] at * <;> omega)) ?_
  cases h;exact (by rfl)
 refine CallQ.o V.bool (by rfl) h (fun r h=>Bo h) (fun r4 h=> ?_)
 cases h;exact (by rfl)
noncomputable def C4 (o0:List (List Bool)) (x0:Int) (y0:Int):Int→Option (Int ⊕ (Unit ⊕ Unit)):=fun x15=>
 if x15<(↑o0.length:Int) then
 (Au (o0) (x0) (x15)).bind fun r4=>
 if (r4)=true then
 (Au (o0) (x15) (y0)).bind fun r6=>
 if (r6)=true then
 some (.inr (.inl ()))
 else
 ask (InI (x15+(1:Int))) <|
 some (.inl (x15+(1:Int)))
 else
 ask (InI (x15+(1:Int))) <|
 some (.inl (x15+(1:Int)))
 else
 some (.inr (.inr ()))
def Jt (o0:List (List Bool)) (x0:Int) (y0:Int):Int→St:=fun s=>[(15,A.val (Af s)),(14,A.val (Af ((↑o0.length:Int)))),(0,A.val ((slr false 1 (slr false 1 V.bool)) (o0))),(1,A.val (Af (x0))),(2,A.val (Af (y0)))]
def Pi (_o0:List (List Bool)) (_x0:Int) (_y0:Int):(Unit ⊕ Unit)→Tgt
 | (.inl _s)=>(Ex.ret,[6],[(6,A.val (V.bool (false)))])
 | (.inr _s)=>((Ex.exit 0),[],[])
theorem Zu {o0:List (List Bool)} {x0:Int} {y0:Int} (x15:Int) (o:Int ⊕ (Unit ⊕ Unit)) (h:C4 o0 x0 y0 x15=some o):vc Try.prog Od (Cc [15,14,0,1,2] (Jt o0 x0 y0) (Pi o0 x0 y0) o) (Jt o0 x0 y0 x15):=by
 unfold C4 at h
 try dsimp only at h
 refine Br.od h (fun p3 h=> ?_) (fun p3 h=> ?_)
 ·refine CallQ.o V.bool (by rfl) h (fun r h=>Bo h) (fun r4 h=> ?_)
  refine Br.ob h (fun p5 h=> ?_) (fun p5 h=> ?_)
  ·refine Br.yes<|Br.yes<|Br.yes<|CallQ.o V.bool (by rfl) h (fun r h=>Bo h) (fun r6 h=> ?_)
   refine Br.yes<|Br.ob h (fun p7 h=> ?_) (fun p7 h=> ?_)
   ·cases h;exact ⟨rfl,rfl⟩
   refine Ask.o h fun p8 h=> ?_
   cases h;exact ⟨rfl,rfl⟩
  refine Br.no<|Br.no<|Br.no<|Br.no<|Br.no<|Ask.o h fun p9 h=> ?_
  cases h;exact ⟨rfl,rfl⟩
 cases h;exact ⟨rfl,rfl⟩
noncomputable def G2 (o0:(List (List Bool))) (x0:Int) (y0:Int):Option Bool:=
 (Au (o0) (x0) (y0)).bind fun r1=>
 if (r1)=true then
 (Aj (C4 o0 x0 y0) (0:Int)).bind fun t=>match t with
 | (.inl _)=>(some false)
 | (.inr _)=>(some true)
 else
 some false
theorem Aed {o0:(List (List Bool))} {x0:Int} {y0:Int} {v:Bool} (h:G2 o0 x0 y0=some v):Ret Try.prog Mk [(slr false 1 (slr false 1 V.bool)) o0,Af x0,Af y0] (V.bool v):=by
 refine A6 Adm (Nat.le_of_ble_eq_true rfl) ?_
 unfold G2 at h
 refine CallQ.o V.bool (by rfl) h (fun r h=>Bo h) (fun r1 h=> ?_)
 refine Br.flip<|Br.ob h (fun p2 h=> ?_) (fun p2 h=> ?_)
 ·refine Len.map<|LoopQ.o [15,14,0,1,2] (Jt o0 x0 y0) (Pi o0 x0 y0) h (fun s o h=>Zu s o h) (by rfl) (by rintro (_ | _)<;>rfl) ?_
  rintro (⟨⟩ | ⟨⟩) h
  ·try dsimp only at h
   cases h;exact (by rfl)
  try dsimp only at h
  cases h;exact (by rfl)
 cases h;exact (by rfl)
noncomputable def Bp (c0:Sl1Cur) (n0:Int):Option (Int×Sl1Cur):=
 if n0≤(1:Int) then
 some ((0:Int),c0)
 else
 (Gl (c0)).bind fun (r2,u3)=>
 if n0>(200:Int) then
 ask (InI (r2*(256:Int))) <|
 (Gl (u3)).bind fun (r6,u7)=>
 ask (InI (r2*(256:Int)+r6)) <|
 ask (n0≠(0:Int)) <|
 some ((r2*(256:Int)+r6).tmod n0,u7)
 else
 ask (n0≠(0:Int)) <|
 some (r2.tmod n0,u3)
theorem Dc {c0:Sl1Cur} {n0:Int} {v:(Int×Sl1Cur)} (h:Bp c0 n0=some v):Aey Try.prog Cf [(rP true (At false)) c0,Af n0] (Af v.1) 0 ((rP true (At false)) v.2):=by
 refine Aij Agx (Nat.le_of_ble_eq_true rfl) ?_
 unfold Bp at h
 refine Br.od h (fun p1 h=> ?_) (fun p1 h=> ?_)
 ·cases h;exact ⟨(by rfl),(by rfl)⟩
 refine CallQ.io Af (rP true (At false)) (by rfl) rfl (fun _=>rfl) (fun _=>⟨rfl,rfl⟩) rfl h (fun r h=>Wa h) (fun r2 u3 h=> ?_)
 refine Br.od h (fun p4 h=> ?_) (fun p4 h=> ?_)
 ·refine Ask.o h fun p5 h=>CallQ.io Af (rP true (At false)) (by rfl) rfl (fun _=>rfl) (fun _=>⟨rfl,rfl⟩) rfl h (fun r h=>Wa h) (fun r6 u7 h=> ?_)
  refine Ask.o h fun p8 h=>Ask.o h fun p9 h=> ?_
  cases h;exact ⟨(by rfl),(by rfl)⟩
 refine Ask.o h fun p10 h=> ?_
 cases h;exact ⟨(by rfl),(by rfl)⟩
noncomputable def Dg (n0:Int) (list0:List Int):Int→Option (Int ⊕ (Unit ⊕ Unit)):=fun x5=>
 if x5<(↑list0.length:Int) then
 ask ((0:Int)≤x5∧x5<(↑list0.length:Int)) <|
 ask (InI (n0-(1:Int))) <|
 (Nq (nth list0 x5.toNat) ((0:Int)) (n0-(1:Int))).bind fun r4=>
 if (r4)=true then
 ask (InI (x5+(1:Int))) <|
 some (.inl (x5+(1:Int)))
 else
 some (.inr (.inl ()))
 else
 some (.inr (.inr ()))
def K6 (n0:Int) (list0:List Int):Int→St:=fun s=>[(5,A.val (Af s)),(0,A.val (Af (n0))),(1,A.val ((slr false 1 Af) (list0)))]
def Rt (_n0:Int) (_list0:List Int):(Unit ⊕ Unit)→Tgt
 | (.inl _s)=>(Ex.ret,[4],[(4,A.val (V.bool (false)))])
 | (.inr _s)=>((Ex.exit 0),[],[])
theorem Acl {n0:Int} {list0:List Int} (x5:Int) (o:Int ⊕ (Unit ⊕ Unit)) (h:Dg n0 list0 x5=some o):vc Try.prog Ru (Cc [5,0,1] (K6 n0 list0) (Rt n0 list0) o) (K6 n0 list0 x5):=by
 unfold Dg at h
 try dsimp only at h
 refine Len.map<|Br.od h (fun p1 h=> ?_) (fun p1 h=> ?_)
 ·refine Len.map<|Ask.o h fun p2 h=>Elem.o (by first | omega | (simp [Ak] at * <;> omega))<|Ask.o h fun p3 h=>CallQ.o V.bool (by rfl) h (fun r h=>Ald h) (fun r4 h=> ?_)
  refine Br.flip<|Br.ob h (fun p5 h=> ?_) (fun p5 h=> ?_)
  ·refine Ask.o h fun p6 h=> ?_
   cases h;exact ⟨rfl,rfl⟩
  cases h;exact ⟨rfl,rfl⟩
 cases h;exact ⟨rfl,rfl⟩
noncomputable def Ik (n0:Int) (list0:(List Int)):Option Bool:=
 (Aj (Dg n0 list0) (0:Int)).bind fun t=>match t with
 | (.inl _)=>(some false)
 | (.inr _)=>(some true)
theorem Aiw {n0:Int} {list0:(List Int)} {v:Bool} (h:Ik n0 list0=some v):Ret Try.prog O3 [Af n0,(slr false 1 Af) list0] (V.bool v):=by
 refine A6 Ahu (Nat.le_of_ble_eq_true rfl) ?_
 unfold Ik at h
 refine LoopQ.o [5,0,1] (K6 n0 list0) (Rt n0 list0) h (fun s o h=>Acl s o h) (by rfl) (by rintro (_ | _)<;>rfl) ?_
 rintro (⟨⟩ | ⟨⟩) h
 ·try dsimp only at h
  cases h;exact (by rfl)
 try dsimp only at h
 cases h;exact (by rfl)
end Go.Proofs.Ytpfikenknmlajaa.Ax
