/-
 What the functions compute, as functions on plain data, and that the program does compute it; written by program.
-/
import Derived.Test.YtjcekpmojnnmbaaGreatCode
import Derived.Test.YtjcekpmojnnmbaaGreatG1
import Derived.Test.YtjcekpmojnnmbaaGreatG2
namespace Go.Proofs.YtjcekpmojnnmbaaGreat.Ax
open Go
set_option maxRecDepth 100000
set_option maxHeartbeats 4000000
noncomputable def Dr (all0:List (List Int)) (x11:Int):(Int×Bool)→Option ((Int×Bool) ⊕ Bool):=fun (x18,x5)=>
 if x18<(↑(List.take ((↑all0.length:Int).toNat-Int.toNat (1:Int)) (List.drop (Int.toNat (1:Int)) all0)).length:Int) then
 ask ((0:Int)≤x18∧x18<(↑(List.take ((↑all0.length:Int).toNat-Int.toNat (1:Int)) (List.drop (Int.toNat (1:Int)) all0)).length:Int)) <|
 if (x5)=true then
 (Gu (nth (List.take ((↑all0.length:Int).toNat-Int.toNat (1:Int)) (List.drop (Int.toNat (1:Int)) all0)) x11.toNat) (nth (List.take ((↑all0.length:Int).toNat-Int.toNat (1:Int)) (List.drop (Int.toNat (1:Int)) all0)) x18.toNat)).bind fun r6=>
 ask (InI (x18+(1:Int))) <|
 some (.inl (x18+(1:Int),r6))
 else
 ask (InI (x18+(1:Int))) <|
 some (.inl (x18+(1:Int),false))
 else
 some (.inr x5)
def Io (all0:List (List Int)) (x11:Int):(Int×Bool)→St:=fun s=>[(18,A.val (Af s.1)),(17,A.val (Af ((↑(List.take ((↑all0.length:Int).toNat-Int.toNat (1:Int)) (List.drop (Int.toNat (1:Int)) all0)).length:Int)))),(16,A.val ((slr false 1 (slr false 1 Af)) (List.take ((↑all0.length:Int).toNat-Int.toNat (1:Int)) (List.drop (Int.toNat (1:Int)) all0)))),(5,A.val (V.bool s.2)),(4,A.val ((slr false 1 Af) (nth (List.take ((↑all0.length:Int).toNat-Int.toNat (1:Int)) (List.drop (Int.toNat (1:Int)) all0)) x11.toNat))),(11,A.val (Af (x11))),(10,A.val (Af ((↑(List.take ((↑all0.length:Int).toNat-Int.toNat (1:Int)) (List.drop (Int.toNat (1:Int)) all0)).length:Int)))),(9,A.val ((slr false 1 (slr false 1 Af)) (List.take ((↑all0.length:Int).toNat-Int.toNat (1:Int)) (List.drop (Int.toNat (1:Int)) all0)))),(0,A.val ((slr false 1 (slr false 1 Af)) (all0)))]
def N2 (all0:List (List Int)) (x11:Int):Bool→Tgt
 | s=>((Ex.exit 2),[5,4,11,10,9,0],[(5,A.val (V.bool s)),(4,A.val ((slr false 1 Af) (nth (List.take ((↑all0.length:Int).toNat-Int.toNat (1:Int)) (List.drop (Int.toNat (1:Int)) all0)) x11.toNat))),(11,A.val (Af (x11))),(10,A.val (Af ((↑(List.take ((↑all0.length:Int).toNat-Int.toNat (1:Int)) (List.drop (Int.toNat (1:Int)) all0)).length:Int)))),(9,A.val ((slr false 1 (slr false 1 Af)) (List.take ((↑all0.length:Int).toNat-Int.toNat (1:Int)) (List.drop (Int.toNat (1:Int)) all0)))),(0,A.val ((slr false 1 (slr false 1 Af)) (all0)))])
theorem X6 {all0:List (List Int)} {x11:Int} (s:(Int×Bool)) (o:(Int×Bool) ⊕ Bool) (h:Dr all0 x11 s=some o):vc Tryz.prog Ny (Dl [18,17,16,5,4,11,10,9,0] (Io all0 x11) (N2 all0 x11) o) (Io all0 x11 s):=by
 obtain ⟨x18,x5⟩:=s
 unfold Dr at h
 try dsimp only at h
 refine Br.od h (fun p3 h=> ?_) (fun p3 h=> ?_)
 ·refine Len.map<|Ask.o h fun p4 h=>Elem.o (by first | omega | (simp [Ap] at * <;> omega))<|Br.ob h (fun p5 h=> ?_) (fun p5 h=> ?_)
  ·refine Br.yes<|Br.yes<|CallQ.o V.bool (by rfl) h (fun r h=>Pn h) (fun r6 h=> ?_)
   refine Br.yes<|Ask.o h fun p7 h=> ?_
   cases h;exact ⟨rfl,rfl⟩
  refine Br.no<|Br.no<|Br.no<|Ask.o h fun p8 h=> ?_
  cases h;exact ⟨rfl,rfl⟩
 cases h;exact ⟨rfl,rfl⟩
noncomputable def B4 (all0:List (List Int)):Int→Option (Int ⊕ ((List Int) ⊕ Unit)):=fun x11=>
 if x11<(↑(List.take ((↑all0.length:Int).toNat-Int.toNat (1:Int)) (List.drop (Int.toNat (1:Int)) all0)).length:Int) then
 ask ((0:Int)≤x11∧x11<(↑(List.take ((↑all0.length:Int).toNat-Int.toNat (1:Int)) (List.drop (Int.toNat (1:Int)) all0)).length:Int)) <|
 ask (0≤(1:Int)∧(1:Int)≤(↑all0.length:Int)∧(↑all0.length:Int)≤((all0.length:Nat):Int)) <|
 (Al (Dr all0 x11) ((0:Int),true)).bind fun q9_5=>
 if (q9_5)=true then
 some (.inr (.inl (nth (List.take ((↑all0.length:Int).toNat-Int.toNat (1:Int)) (List.drop (Int.toNat (1:Int)) all0)) x11.toNat)))
 else
 ask (InI (x11+(1:Int))) <|
 some (.inl (x11+(1:Int)))
 else
 some (.inr (.inr ()))
def Ip (all0:List (List Int)):Int→St:=fun s=>[(11,A.val (Af s)),(10,A.val (Af ((↑(List.take ((↑all0.length:Int).toNat-Int.toNat (1:Int)) (List.drop (Int.toNat (1:Int)) all0)).length:Int)))),(9,A.val ((slr false 1 (slr false 1 Af)) (List.take ((↑all0.length:Int).toNat-Int.toNat (1:Int)) (List.drop (Int.toNat (1:Int)) all0)))),(0,A.val ((slr false 1 (slr false 1 Af)) (all0)))]
def Nn (_all0:List (List Int)):((List Int) ⊕ Unit)→Tgt
 | (.inl s)=>(Ex.ret,[2],[(2,A.val ((slr false 1 Af) s))])
 | (.inr _s)=>((Ex.exit 0),[],[])
theorem Xm {all0:List (List Int)} (x11:Int) (o:Int ⊕ ((List Int) ⊕ Unit)) (h:B4 all0 x11=some o):vc Tryz.prog N7 (Dl [11,10,9,0] (Ip all0) (Nn all0) o) (Ip all0 x11):=by
 unfold B4 at h
 try dsimp only at h
 refine Br.od h (fun p1 h=> ?_) (fun p1 h=> ?_)
 ·refine Len.map<|Ask.o h fun p2 h=>Elem.o (by first | omega | (simp [Ap] at * <;> omega))<|Len.map<|SlcQ.o (slr false 1 Af) h fun h=>Len.map<|LoopQ.o [18,17,16,5,4,11,10,9,0] (Io all0 x11) (N2 all0 x11) h (fun s o h=>X6 s o h) (by rfl) (fun _=>rfl) ?_
  rintro q9_5 h
  try dsimp only at h
  refine Br.ob h (fun p10 h=> ?_) (fun p10 h=> ?_)
  ·cases h;exact ⟨rfl,rfl⟩
  refine Ask.o h fun p11 h=> ?_
  cases h;exact ⟨rfl,rfl⟩
 cases h;exact ⟨rfl,rfl⟩
noncomputable def E9 (all0:(List (List Int))):Option (Option (List Int)):=
 ask (0≤(1:Int)∧(1:Int)≤(↑all0.length:Int)∧(↑all0.length:Int)≤((all0.length:Nat):Int)) <|
 (Al (B4 all0) (0:Int)).bind fun t=>match t with
 | (.inl q12_2)=>(some (some q12_2))
 | (.inr _)=>(some none)
theorem So {all0:(List (List Int))} {v:(Option (List Int))} (h:E9 all0=some v):Ret Tryz.prog Ih [(slr false 1 (slr false 1 Af)) all0] ((rOl 1 Af) v):=by
 refine A5 Adv (Nat.le_of_ble_eq_true rfl) ?_
 unfold E9 at h
 refine Len.map<|SlcQ.o (slr false 1 Af) h fun h=>Len.map<|LoopQ.o [11,10,9,0] (Ip all0) (Nn all0) h (fun s o h=>Xm s o h) (by rfl) (by rintro (_ | _)<;>rfl) ?_
 rintro (q12_2 | ⟨⟩) h
 ·try dsimp only at h
  cases h;exact (by rfl)
 try dsimp only at h
 cases h;exact (by rfl)
noncomputable def D6 (n0:Int):(Int×(List Int))→Option ((Int×(List Int)) ⊕ (List Int)):=fun (x15,x5)=>
 if x15<(↑n0.toNat:Int) then
 ask ((0:Int)≤x15∧x15<(↑x5.length:Int)) <|
 ask (InI (x15+(1:Int))) <|
 some (.inl (x15+(1:Int),x5.set x15.toNat (-1:Int)))
 else
 some (.inr x5)
def Lr (n0:Int) (f_less0:Nat) (c_less0:List V):(Int×(List Int))→St:=fun s=>[(15,A.val (Af s.1)),(14,A.val (Af ((↑n0.toNat:Int)))),(5,A.val ((rP true (slr true 1 Af)) s.2)),(3,A.val (V.ptr true (V.fclo f_less0 c_less0).up)),(2,A.val ((rP true Af) (n0)))]
def Sw (n0:Int) (f_less0:Nat) (c_less0:List V):(List Int)→Tgt
 | s=>((Ex.exit 0),[5,3,2],[(5,A.val ((rP true (slr true 1 Af)) s)),(3,A.val (V.ptr true (V.fclo f_less0 c_less0).up)),(2,A.val ((rP true Af) (n0)))])
theorem Aca {n0:Int} {f_less0:Nat} {c_less0:List V} (s:(Int×(List Int))) (o:(Int×(List Int)) ⊕ (List Int)) (h:D6 n0 s=some o):vc Tryz.prog Sp (Dl [15,14,5,3,2] (Lr n0 f_less0 c_less0) (Sw n0 f_less0 c_less0) o) (Lr n0 f_less0 c_less0 s):=by
 obtain ⟨x15,x5⟩:=s
 unfold D6 at h
 try dsimp only at h
 refine Br.od h (fun p2 h=> ?_) (fun p2 h=> ?_)
 ·refine Cells.lit rfl rfl<|Kid.lit rfl rfl<|Len.map<|Ask.o h fun p3 h=>Kid.lit rfl rfl<|SetKids.one (fun _=>⟨rfl,rfl⟩) ((-1:Int)) (by rfl) (by first | omega | (simp [Ap] at * <;> omega))<|Kid.lit rfl rfl<|SetKids.lit rfl<|Ask.o h fun p4 h=> ?_
  cases h;exact ⟨rfl,rfl⟩
 cases h;exact ⟨rfl,rfl⟩
noncomputable def Gt (n0:Int) (less0:Int→Int→Option Bool):(Int×Int×(List Bool)×(List Int))→Option ((Int×Int×(List Bool)×(List Int)) ⊕ Int):=fun (x10,x9,_x7,x5)=>
 if x10<n0 then
 ask ((0:Int)≤n0∧n0≤(↑LIM:Int)) <|
 (Amk fun n=>Bd less0 n (x10) (n0) (List.replicate n0.toNat false) (x5)).bind fun (r8,u9,u10)=>
 if (r8)=true then
 ask (InI (x9-(1:Int))) <|
 ask (InI (x10+(1:Int))) <|
 some (.inl (x10+(1:Int),x9-(1:Int),u9,u10))
 else
 ask (InI (x10+(1:Int))) <|
 some (.inl (x10+(1:Int),x9,u9,u10))
 else
 some (.inr x9)
def Lx (n0:Int) (f_less0:Nat) (c_less0:List V):(Int×Int×(List Bool)×(List Int))→St:=fun s=>[(10,A.val (Af s.1)),(9,A.val (Af s.2.1)),(8,A.tie false Cd [A.ref (2:Nat) [],A.ref (7:Nat) [],A.ref (3:Nat) [],A.ref (5:Nat) []] []),(7,A.val ((rP true (slr true 1 V.bool)) s.2.2.1)),(2,A.val ((rP true Af) (n0))),(3,A.val (V.ptr true (V.fclo f_less0 c_less0).up)),(5,A.val ((rP true (slr true 1 Af)) s.2.2.2))]
def Sv (_n0:Int) (_f_less0:Nat) (_c_less0:List V):Int→Tgt
 | s=>((Ex.exit 2),[9],[(9,A.val (Af s))])
theorem Adx {n0:Int} {less0:Int→Int→Option Bool} {f_less0:Nat} {c_less0:List V} (h_less0 : ∀w_0 w_1 v,less0 w_0 w_1=some v→Ret Tryz.prog f_less0 ([Af w_0,Af w_1]++fzL c_less0) (V.bool v)) (s:(Int×Int×(List Bool)×(List Int))) (o:(Int×Int×(List Bool)×(List Int)) ⊕ Int) (h:Gt n0 less0 s=some o):vc Tryz.prog S8 (Dl [10,9,8,7,2,3,5] (Lx n0 f_less0 c_less0) (Sv n0 f_less0 c_less0) o) (Lx n0 f_less0 c_less0 s):=by
 obtain ⟨x10,x9,x7,x5⟩:=s
 unfold Gt at h
 try dsimp only at h
 refine Cells.lit rfl rfl<|Br.od h (fun p6 h=> ?_) (fun p6 h=> ?_)
 ·refine Cells.lit rfl rfl<|Ask.o h fun p7 h=>MkQ.o V.bool (false) rfl<|SetKids.lit rfl<|CallT.io2 V.bool (rP true (slr true 1 V.bool)) (rP true (slr true 1 Af)) (by rfl) rfl rfl (fun _=>rfl) (fun _=>⟨by first | rfl | simp [Db,V.noFz,Bo],rfl⟩) (fun _=>⟨by first | rfl | simp [Db,V.noFz,Bo],rfl⟩) rfl rfl h (fun r h=>Afo h_less0 h) (fun r8 u9 u10 h=> ?_)
  refine Br.ob h (fun p11 h=> ?_) (fun p11 h=> ?_)
  ·refine Ask.o h fun p12 h=>Ask.o h fun p13 h=> ?_
   cases h;exact ⟨rfl,rfl⟩
  refine Ask.o h fun p14 h=> ?_
  cases h;exact ⟨rfl,rfl⟩
 cases h;exact ⟨rfl,rfl⟩
noncomputable def I3 (n0:Int) (less0:(Int→Int→Option Bool)):Option Int:=
 ask ((0:Int)≤n0∧n0≤(↑LIM:Int)) <|
 (Al (D6 n0) ((0:Int),List.replicate n0.toNat (0:Int))).bind fun q5_5=>
 (Al (Gt n0 less0) ((0:Int),n0,Aw Bool,q5_5)).bind fun q15_9=>
 some q15_9
theorem Ajd {n0:Int} {less0:(Int→Int→Option Bool)} {f_less0:Nat} {c_less0:List V} (h_less0 : ∀w_0 w_1 v,less0 w_0 w_1=some v→Ret Tryz.prog f_less0 ([Af w_0,Af w_1]++fzL c_less0) (V.bool v)) {v:Int} (h:I3 n0 less0=some v):Ret Tryz.prog Q5 [Af n0,V.fclo f_less0 c_less0] (Af v):=by
 refine A5 Ah2 (Nat.le_of_ble_eq_true rfl) ?_
 unfold I3 at h
 refine Cells.lit rfl rfl<|Ask.o h fun p1 h=>MkQ.o Af ((0:Int)) rfl<|SetKids.lit rfl<|Cells.lit rfl rfl<|Kid.lit rfl rfl<|Len.mrep<|LoopQ.o [15,14,5,3,2] (Lr n0 f_less0 c_less0) (Sw n0 f_less0 c_less0) h (fun s o h=>Aca s o h) (by rfl) (fun _=>rfl) ?_
 rintro q5_5 h
 try dsimp only at h
 refine Cells.lit rfl rfl<|LoopQ.o [10,9,8,7,2,3,5] (Lx n0 f_less0 c_less0) (Sv n0 f_less0 c_less0) h (fun s o h=>Adx h_less0 s o h) (by rfl) (fun _=>rfl) ?_
 rintro q15_9 h
 try dsimp only at h
 cases h;exact (by rfl)
noncomputable def B9 (i0:Int) (k0:Int) (a2:(List (List Int))):Option Bool:=
 if i0≠k0 then
 ask ((0:Int)≤i0∧i0<(↑a2.length:Int)) <|
 ask ((0:Int)≤k0∧k0<(↑a2.length:Int)) <|
 (Gu (nth a2 i0.toNat) (nth a2 k0.toNat)).bind fun r4=>
 some r4
 else
 some false
theorem Py {i0:Int} {k0:Int} {a2:(List (List Int))} {v:Bool} (h:B9 i0 k0 a2=some v):Ret Tryz.prog Dt [Af i0,Af k0,(rP false (slr false 1 (slr false 1 Af))) a2] (V.bool v):=by
 refine A5 Pf (Nat.le_of_ble_eq_true rfl) ?_
 unfold B9 at h
 refine Br.on h (fun p1 h=> ?_) (fun p1 h=> ?_)
 ·refine Br.yes<|Br.yes<|Len.map<|Ask.o h fun p2 h=>Elem.o (by first | omega | (simp [Ap] at * <;> omega))<|Br.yes<|Br.yes<|Br.yes<|Br.yes<|Len.map<|Ask.o h fun p3 h=>Elem.o (by first | omega | (simp [Ap] at * <;> omega))<|Br.yes<|Br.yes<|CallQ.o V.bool (by rfl) h (fun r h=>Pn h) (fun r4 h=> ?_)
  refine Br.yes ?_
  cases h;exact (by rfl)
 refine Br.no<|Br.no<|Br.no<|Br.no<|Br.no<|Br.no<|Br.no<|Br.no<|Br.no ?_
 cases h;exact (by rfl)
noncomputable def Ej (rows0:List (List Int)) (beyond0:List Int→List Int→Option Bool) (x14:Int) (_x5:List (List Int)):(Int×Bool)→Option ((Int×Bool) ⊕ Bool):=fun (x21,x8)=>
 if x21<(↑rows0.length:Int) then
 ask ((0:Int)≤x21∧x21<(↑rows0.length:Int)) <|
 if x21≠x14 then
 (beyond0 (nth rows0 x14.toNat) (nth rows0 x21.toNat)).bind fun r6=>
 if (r6)=true then
 ask (InI (x21+(1:Int))) <|
 some (.inl (x21+(1:Int),false))
 else
 ask (InI (x21+(1:Int))) <|
 some (.inl (x21+(1:Int),x8))
 else
 ask (InI (x21+(1:Int))) <|
 some (.inl (x21+(1:Int),x8))
 else
 some (.inr x8)
def Kx (rows0:List (List Int)) (f_beyond0:Nat) (c_beyond0:List V) (x14:Int) (x5:List (List Int)):(Int×Bool)→St:=fun s=>[(21,A.val (Af s.1)),(20,A.val (Af ((↑rows0.length:Int)))),(19,A.val ((slr false 1 (slr false 1 Af)) (rows0))),(8,A.val (V.bool s.2)),(7,A.val ((slr false 1 Af) (nth rows0 x14.toNat))),(6,A.val (Af (x14))),(14,A.val (Af (x14))),(13,A.val (Af ((↑rows0.length:Int)))),(12,A.val ((slr false 1 (slr false 1 Af)) (rows0))),(5,A.val ((slr true 1 (slr true 1 Af)) (x5))),(0,A.val ((slr false 1 (slr false 1 Af)) (rows0))),(1,A.val (V.fclo f_beyond0 c_beyond0))]
def Qs (rows0:List (List Int)) (f_beyond0:Nat) (c_beyond0:List V) (x14:Int) (x5:List (List Int)):Bool→Tgt
 | s=>((Ex.exit 2),[8,7,14,13,12,5,0,1],[(8,A.val (V.bool s)),(7,A.val ((slr false 1 Af) (nth rows0 x14.toNat))),(14,A.val (Af (x14))),(13,A.val (Af ((↑rows0.length:Int)))),(12,A.val ((slr false 1 (slr false 1 Af)) (rows0))),(5,A.val ((slr true 1 (slr true 1 Af)) (x5))),(0,A.val ((slr false 1 (slr false 1 Af)) (rows0))),(1,A.val (V.fclo f_beyond0 c_beyond0))])
theorem Aak {rows0:List (List Int)} {beyond0:List Int→List Int→Option Bool} {x14:Int} {x5:List (List Int)} {f_beyond0:Nat} {c_beyond0:List V} (h_beyond0 : ∀w_0 w_1 v,beyond0 w_0 w_1=some v→Ret Tryz.prog f_beyond0 ([(slr false 1 Af) w_0,(slr false 1 Af) w_1]++fzL c_beyond0) (V.bool v)) (s:(Int×Bool)) (o:(Int×Bool) ⊕ Bool) (h:Ej rows0 beyond0 x14 x5 s=some o):vc Tryz.prog Q7 (Dl [21,20,19,8,7,6,14,13,12,5,0,1] (Kx rows0 f_beyond0 c_beyond0 x14 x5) (Qs rows0 f_beyond0 c_beyond0 x14 x5) o) (Kx rows0 f_beyond0 c_beyond0 x14 x5 s):=by
 obtain ⟨x21,x8⟩:=s
 unfold Ej at h
 try dsimp only at h
 refine Br.od h (fun p3 h=> ?_) (fun p3 h=> ?_)
 ·refine Len.map<|Ask.o h fun p4 h=>Elem.o (by first | omega | (simp [Ap] at * <;> omega))<|Br.on h (fun p5 h=> ?_) (fun p5 h=> ?_)
  ·refine Br.yes<|Br.yes<|Br.yes<|CloQ.o V.bool (by rfl) (fun _=>by first | rfl | simp [Db,V.noFz,Ca,Bo,NoFz.eq]) h (fun r h=>h_beyond0 _ _ _ h) (fun r6 h=> ?_)
   refine Br.yes<|Br.ob h (fun p7 h=> ?_) (fun p7 h=> ?_)
   ·refine Ask.o h fun p8 h=> ?_
    cases h;exact ⟨rfl,rfl⟩
   refine Ask.o h fun p9 h=> ?_
   cases h;exact ⟨rfl,rfl⟩
  refine Br.no<|Br.no<|Br.no<|Br.no<|Br.no<|Ask.o h fun p10 h=> ?_
  cases h;exact ⟨rfl,rfl⟩
 cases h;exact ⟨rfl,rfl⟩
noncomputable def Er (rows0:List (List Int)) (beyond0:List Int→List Int→Option Bool):(Int×(List (List Int)))→Option ((Int×(List (List Int))) ⊕ (List (List Int))):=fun (x14,x5)=>
 if x14<(↑rows0.length:Int) then
 ask ((0:Int)≤x14∧x14<(↑rows0.length:Int)) <|
 (Al (Ej rows0 beyond0 x14 x5) ((0:Int),true)).bind fun q11_8=>
 if (q11_8)=true then
 (Jf (nth rows0 x14.toNat)).bind fun r13=>
 ask ((x5).length+([r13]).length≤LIM) <|
 ask (InI (x14+(1:Int))) <|
 some (.inl (x14+(1:Int),x5++[r13]))
 else
 ask (InI (x14+(1:Int))) <|
 some (.inl (x14+(1:Int),x5))
 else
 some (.inr x5)
def K1 (rows0:List (List Int)) (f_beyond0:Nat) (c_beyond0:List V):(Int×(List (List Int)))→St:=fun s=>[(14,A.val (Af s.1)),(13,A.val (Af ((↑rows0.length:Int)))),(12,A.val ((slr false 1 (slr false 1 Af)) (rows0))),(5,A.val ((slr true 1 (slr true 1 Af)) s.2)),(0,A.val ((slr false 1 (slr false 1 Af)) (rows0))),(1,A.val (V.fclo f_beyond0 c_beyond0))]
def Q0 (_rows0:List (List Int)) (_f_beyond0:Nat) (_c_beyond0:List V):(List (List Int))→Tgt
 | s=>((Ex.exit 0),[5],[(5,A.val ((slr true 1 (slr true 1 Af)) s))])
theorem Abl {rows0:List (List Int)} {beyond0:List Int→List Int→Option Bool} {f_beyond0:Nat} {c_beyond0:List V} (h_beyond0 : ∀w_0 w_1 v,beyond0 w_0 w_1=some v→Ret Tryz.prog f_beyond0 ([(slr false 1 Af) w_0,(slr false 1 Af) w_1]++fzL c_beyond0) (V.bool v)) (s:(Int×(List (List Int)))) (o:(Int×(List (List Int))) ⊕ (List (List Int))) (h:Er rows0 beyond0 s=some o):vc Tryz.prog Qd (Dl [14,13,12,5,0,1] (K1 rows0 f_beyond0 c_beyond0) (Q0 rows0 f_beyond0 c_beyond0) o) (K1 rows0 f_beyond0 c_beyond0 s):=by
 obtain ⟨x14,x5⟩:=s
 unfold Er at h
 try dsimp only at h
 refine Br.od h (fun p1 h=> ?_) (fun p1 h=> ?_)
 ·refine Len.map<|Ask.o h fun p2 h=>Elem.o (by first | omega | (simp [Ap] at * <;> omega))<|Len.map<|LoopQ.o [21,20,19,8,7,6,14,13,12,5,0,1] (Kx rows0 f_beyond0 c_beyond0 x14 x5) (Qs rows0 f_beyond0 c_beyond0 x14 x5) h (fun s o h=>Aak h_beyond0 s o h) (by rfl) (fun _=>rfl) ?_
  rintro q11_8 h
  try dsimp only at h
  refine Br.ob h (fun p12 h=> ?_) (fun p12 h=> ?_)
  ·refine CallQ.o (slr true 1 Af) (by rfl) h (fun r h=>Adj h) (fun r13 h=> ?_)
   refine BslQ.o (slr true 1 Af) [r13] (by exact fun _=>⟨rfl,rfl⟩) (by first | rfl | (simp only [Aa,V.fz,fzL,V.up,upL,Ab,Ac,Ad,slr,List.cons_append,List.nil_append];done) | simp [Aa,V.fz,fzL,V.up,upL,Ab,Ac,Ad,slr])<|NoOwn.own rfl<|AppQ.o (m:=1) (slr true 1 Af) (by exact fun _=>⟨rfl,rfl⟩) (x5) ([r13]) (by rfl) (by rfl) h fun h=>Ask.o h fun p14 h=> ?_
   cases h;exact ⟨rfl,rfl⟩
  refine Ask.o h fun p15 h=> ?_
  cases h;exact ⟨rfl,rfl⟩
 cases h;exact ⟨rfl,rfl⟩
noncomputable def Gm (rows0:(List (List Int))) (beyond0:((List Int)→(List Int)→Option Bool)):Option (List (List Int)):=
 (Al (Er rows0 beyond0) ((0:Int),Aw (List Int))).bind fun q16_5=>
 some q16_5
theorem Agq {rows0:(List (List Int))} {beyond0:((List Int)→(List Int)→Option Bool)} {f_beyond0:Nat} {c_beyond0:List V} (h_beyond0 : ∀w_0 w_1 v,beyond0 w_0 w_1=some v→Ret Tryz.prog f_beyond0 ([(slr false 1 Af) w_0,(slr false 1 Af) w_1]++fzL c_beyond0) (V.bool v)) {v:(List (List Int))} (h:Gm rows0 beyond0=some v):Ret Tryz.prog Od [(slr false 1 (slr false 1 Af)) rows0,V.fclo f_beyond0 c_beyond0] ((slr true 1 (slr true 1 Af)) v):=by
 refine A5 Ago (Nat.le_of_ble_eq_true rfl) ?_
 unfold Gm at h
 refine BslQ.o (slr true 1 Af) (Aw (List Int)) (by exact fun _=>⟨rfl,rfl⟩) (by first | rfl | (simp only [Aa,V.fz,fzL,V.up,upL,Ab,Ac,Ad,slr,List.cons_append,List.nil_append];done) | simp [Aa,V.fz,fzL,V.up,upL,Ab,Ac,Ad,slr])<|Len.map<|LoopQ.o [14,13,12,5,0,1] (K1 rows0 f_beyond0 c_beyond0) (Q0 rows0 f_beyond0 c_beyond0) h (fun s o h=>Abl h_beyond0 s o h) (by rfl) (fun _=>rfl) ?_
 rintro q16_5 h
 try dsimp only at h
 cases h;exact (by rfl)
noncomputable def Cw (row0:(List Int)) (other0:(List Int)):Option Bool:=
 (Gu (other0) (row0)).bind fun r1=>
 some r1
theorem Pb {row0:(List Int)} {other0:(List Int)} {v:Bool} (h:Cw row0 other0=some v):Ret Tryz.prog Du [(slr false 1 Af) row0,(slr false 1 Af) other0] (V.bool v):=by
 refine A5 Pl (Nat.le_of_ble_eq_true rfl) ?_
 unfold Cw at h
 refine CallQ.o V.bool (by rfl) h (fun r h=>Pn h) (fun r1 h=> ?_)
 cases h;exact (by rfl)
end Go.Proofs.YtjcekpmojnnmbaaGreat.Ax
