/-
 What the functions compute, as functions on plain data, and that the program does compute it; written by program.
-/
import Derived.Test.YtmkgjnphianalaaCode
import Derived.Test.YtmkgjnphianalaaG1
import Derived.Test.YtmkgjnphianalaaG2
import Derived.Test.YtmkgjnphianalaaG3
import Derived.Test.YtmkgjnphianalaaG4
import Derived.Test.YtmkgjnphianalaaG5
namespace Go.Proofs.Ytmkgjnphianalaa.Ax
open Go
set_option maxRecDepth 100000
set_option maxHeartbeats 4000000
noncomputable def Hn (lists0:List (List Int)) (l0:List Int):Int→Option (Int ⊕ Int):=fun x5=>
 if x5>(0:Int) then
 ask (InI (x5-(1:Int))) <|
 ask ((0:Int)≤x5-(1:Int)∧x5-(1:Int)<(↑lists0.length:Int)) <|
 if (↑l0.length:Int)<(↑(nth lists0 (x5-(1:Int)).toNat).length:Int) then
 ask (InI (x5-(1:Int))) <|
 some (.inl (x5-(1:Int)))
 else
 ask (InI (x5-(1:Int))) <|
 ask ((0:Int)≤x5-(1:Int)∧x5-(1:Int)<(↑lists0.length:Int)) <|
 if (↑l0.length:Int)=(↑(nth lists0 (x5-(1:Int)).toNat).length:Int) then
 ask (InI (x5-(1:Int))) <|
 ask ((0:Int)≤x5-(1:Int)∧x5-(1:Int)<(↑lists0.length:Int)) <|
 (Kv (l0) (nth lists0 (x5-(1:Int)).toNat)).bind fun r11=>
 if (r11)=true then
 ask (InI (x5-(1:Int))) <|
 some (.inl (x5-(1:Int)))
 else
 some (.inr x5)
 else
 some (.inr x5)
 else
 some (.inr x5)
def Oq (lists0:List (List Int)) (l0:List Int):Int→St:=fun s=>[(5,A.val (Ag s)),(0,A.val ((slr false 1 (slr false 1 Ag)) (lists0))),(1,A.val ((slr false 1 Ag) (l0)))]
def Vy (lists0:List (List Int)) (l0:List Int):Int→Tgt
 | s=>((Ex.exit 0),[5,0,1],[(5,A.val (Ag s)),(0,A.val ((slr false 1 (slr false 1 Ag)) (lists0))),(1,A.val ((slr false 1 Ag) (l0)))])
theorem Afk {lists0:List (List Int)} {l0:List Int} (x5:Int) (o:Int ⊕ Int) (h:Hn lists0 l0 x5=some o):vc Try.prog V8 (C1 [5,0,1] (Oq lists0 l0) (Vy lists0 l0) o) (Oq lists0 l0 x5):=by
 unfold Hn at h
 try dsimp only at h
 refine Br.od h (fun p1 h=> ?_) (fun p1 h=> ?_)
 ·refine Br.yes ?_
  refine Len.map ?_
  refine Br.yes ?_
  refine Br.yes ?_
  refine Br.yes ?_
  refine Ask.o h fun p2 h=> ?_
  refine Br.yes ?_
  refine Len.map ?_
  refine Ask.o h fun p3 h=> ?_
  refine Elem.o (by first | omega | (simp [Aw] at * <;> omega)) ?_
  refine Br.yes ?_
  refine Br.yes ?_
  refine Len.map ?_
  refine Br.yes ?_
  refine Br.yes ?_
  refine Br.od h (fun p4 h=> ?_) (fun p4 h=> ?_)
  ·refine Br.yes ?_
   refine Br.yes ?_
   refine Br.yes ?_
   refine Br.yes ?_
   refine Br.yes ?_
   refine Br.yes ?_
   refine Br.yes ?_
   refine Br.yes ?_
   refine Br.yes ?_
   refine Br.yes ?_
   refine Br.yes ?_
   refine Br.yes ?_
   refine Br.yes ?_
   refine Br.yes ?_
   refine Ask.o h fun p5 h=> ?_
   cases h;exact ⟨rfl,rfl⟩
  refine Br.no ?_
  refine Len.map ?_
  refine Br.no ?_
  refine Br.no ?_
  refine Br.no ?_
  refine Ask.o h fun p6 h=> ?_
  refine Br.no ?_
  refine Len.map ?_
  refine Ask.o h fun p7 h=> ?_
  refine Elem.o (by first | omega | (simp [Aw] at * <;> omega)) ?_
  refine Br.no ?_
  refine Br.no ?_
  refine Len.map ?_
  refine Br.no ?_
  refine Br.no ?_
  refine Br.oe h (fun p8 h=> ?_) (fun p8 h=> ?_)
  ·refine Br.yes ?_
   refine Br.yes ?_
   refine Br.yes ?_
   refine Ask.o h fun p9 h=> ?_
   refine Br.yes ?_
   refine Len.map ?_
   refine Ask.o h fun p10 h=> ?_
   refine Elem.o (by first | omega | (simp [Aw] at * <;> omega)) ?_
   refine Br.yes ?_
   refine Br.yes ?_
   refine CallQ.o V.bool (by rfl) h (fun r h=>Aoe h) (fun r11 h=> ?_)
   refine Br.no ?_
   refine Br.yes ?_
   refine Br.yes ?_
   refine Br.no ?_
   refine Br.yes ?_
   refine Br.ob h (fun p12 h=> ?_) (fun p12 h=> ?_)
   ·refine Ask.o h fun p13 h=> ?_
    cases h;exact ⟨rfl,rfl⟩
   cases h;exact ⟨rfl,rfl⟩
  refine Br.no ?_
  refine Br.no ?_
  refine Br.no ?_
  refine Br.no ?_
  refine Br.no ?_
  refine Br.no ?_
  refine Br.no ?_
  refine Br.no ?_
  refine Br.yes ?_
  refine Br.no ?_
  refine Br.yes ?_
  refine Br.no ?_
  cases h;exact ⟨rfl,rfl⟩
 refine Br.no ?_
 refine Br.no ?_
 refine Br.no ?_
 refine Br.no ?_
 refine Br.no ?_
 refine Br.no ?_
 refine Br.no ?_
 refine Br.no ?_
 refine Br.no ?_
 refine Br.no ?_
 refine Br.no ?_
 refine Br.no ?_
 cases h;exact ⟨rfl,rfl⟩
noncomputable def K4 (lists0:(List (List Int))) (l0:(List Int)):Option (List (List Int)):=
 (Al (Hn lists0 l0) (↑lists0.length:Int)).bind fun q14_5=>
 ask (0≤(0:Int)∧(0:Int)≤q14_5∧q14_5≤((lists0.length:Nat):Int)) <|
 ask ((Ao (List Int)).length+(List.take (q14_5.toNat-Int.toNat (0:Int)) (List.drop (Int.toNat (0:Int)) lists0)).length≤LIM) <|
 ask ((Ao (List Int)++List.take (q14_5.toNat-Int.toNat (0:Int)) (List.drop (Int.toNat (0:Int)) lists0)).length+([l0]).length≤LIM) <|
 ask (0≤q14_5∧q14_5≤(↑lists0.length:Int)∧(↑lists0.length:Int)≤((lists0.length:Nat):Int)) <|
 ask ((Ao (List Int)++List.take (q14_5.toNat-Int.toNat (0:Int)) (List.drop (Int.toNat (0:Int)) lists0)++[l0]).length+(List.take ((↑lists0.length:Int).toNat-q14_5.toNat) (List.drop q14_5.toNat lists0)).length≤LIM) <|
 some (Ao (List Int)++List.take (q14_5.toNat-Int.toNat (0:Int)) (List.drop (Int.toNat (0:Int)) lists0)++[l0]++List.take ((↑lists0.length:Int).toNat-q14_5.toNat) (List.drop q14_5.toNat lists0))
theorem Ani {lists0:(List (List Int))} {l0:(List Int)} {v:(List (List Int))} (h:K4 lists0 l0=some v):Ret Try.prog Ul [(slr false 1 (slr false 1 Ag)) lists0,(slr false 1 Ag) l0] ((slr true 1 (slr false 1 Ag)) v):=by
 refine Bb Am6 (Nat.le_of_ble_eq_true rfl) ?_
 unfold K4 at h
 refine Len.map ?_
 refine LoopQ.o [5,0,1] (Oq lists0 l0) (Vy lists0 l0) h (fun s o h=>Afk s o h) (by rfl) (fun _=>rfl) ?_
 rintro q14_5 h
 try dsimp only at h
 refine BslQ.o (slr true 1 Ag) (Ao (List Int)) (by exact fun _=>⟨rfl,rfl⟩) (by first | rfl | (simp only [Aa,V.fz,fzL,V.up,upL,Ab,Ac,Ad,slr,List.cons_append,List.nil_append];done) | simp [Aa,V.fz,fzL,V.up,upL,Ab,Ac,Ad,slr]) ?_
 refine SlcQ.o (slr false 1 Ag) h fun h=> ?_
 refine AppQ.o (m:=1) (slr false 1 Ag) (by exact fun _=>⟨rfl,rfl⟩) (Ao (List Int)) (List.take (q14_5.toNat-Int.toNat (0:Int)) (List.drop (Int.toNat (0:Int)) lists0)) (by rfl) (by rfl) h fun h=> ?_
 refine BslQ.o (slr false 1 Ag) [l0] (by exact fun _=>⟨rfl,rfl⟩) (by first | rfl | (simp only [Aa,V.fz,fzL,V.up,upL,Ab,Ac,Ad,slr,List.cons_append,List.nil_append];done) | simp [Aa,V.fz,fzL,V.up,upL,Ab,Ac,Ad,slr]) ?_
 refine NoOwn.o (fun _=>rfl) ?_
 refine AppQ.o (m:=1) (slr false 1 Ag) (by exact fun _=>⟨rfl,rfl⟩) (Ao (List Int)++List.take (q14_5.toNat-Int.toNat (0:Int)) (List.drop (Int.toNat (0:Int)) lists0)) ([l0]) (by rfl) (by rfl) h fun h=> ?_
 refine Len.map ?_
 refine SlcQ.o (slr false 1 Ag) h fun h=> ?_
 refine AppQ.o (m:=1) (slr false 1 Ag) (by exact fun _=>⟨rfl,rfl⟩) (Ao (List Int)++List.take (q14_5.toNat-Int.toNat (0:Int)) (List.drop (Int.toNat (0:Int)) lists0)++[l0]) (List.take ((↑lists0.length:Int).toNat-q14_5.toNat) (List.drop q14_5.toNat lists0)) (by rfl) (by rfl) h fun h=> ?_
 cases h;exact (by rfl)
noncomputable def Pp (f0:SOp) (n0:Int):Option Bool:=
 if f0.Arity≥(0:Int) then
 if f0.Arity≤(3:Int) then
 (Kc (n0) (f0.Arity)).bind fun r3=>
 if (↑f0.Table.length:Int)=r3 then
 (Iv (f0.Table) (n0)).bind fun r5=>
 some r5
 else
 some false
 else
 some false
 else
 some false
theorem Avd {f0:SOp} {n0:Int} {v:Bool} (h:Pp f0 n0=some v):Ret Try.prog Zl [(A9 false) f0,Ag n0] (V.bool v):=by
 refine Bb Asx (Nat.le_of_ble_eq_true rfl) ?_
 unfold Pp at h
 refine Cells.lit rfl rfl ?_
 refine Br.od h (fun p1 h=> ?_) (fun p1 h=> ?_)
 ·refine Br.yes ?_
  refine Cells.lit rfl rfl ?_
  refine Br.yes ?_
  refine Br.yes ?_
  refine Br.od h (fun p2 h=> ?_) (fun p2 h=> ?_)
  ·refine Br.yes ?_
   refine Cells.lit rfl rfl ?_
   refine Br.yes ?_
   refine Len.map ?_
   refine Br.yes ?_
   refine Br.yes ?_
   refine Br.yes ?_
   refine Cells.lit rfl rfl ?_
   refine Br.yes ?_
   refine CallP.o Ag (by rfl) h (fun r h=>Ars h) (fun r3 h=> ?_)
   refine Br.yes ?_
   refine Br.yes ?_
   refine Br.oe h (fun p4 h=> ?_) (fun p4 h=> ?_)
   ·refine Br.yes ?_
    refine Cells.lit rfl rfl ?_
    refine Br.yes ?_
    refine Br.yes ?_
    refine CallQ.o V.bool (by rfl) h (fun r h=>Abl h) (fun r5 h=> ?_)
    refine Br.yes ?_
    cases h;exact (by rfl)
   refine Br.no ?_
   refine Br.no ?_
   refine Br.no ?_
   refine Br.no ?_
   cases h;exact (by rfl)
  refine Br.no ?_
  refine Br.no ?_
  refine Br.no ?_
  refine Br.no ?_
  refine Br.no ?_
  refine Br.no ?_
  refine Br.no ?_
  refine Br.no ?_
  refine Br.no ?_
  refine Br.no ?_
  refine Br.no ?_
  refine Br.no ?_
  refine Br.no ?_
  cases h;exact (by rfl)
 refine Br.no ?_
 refine Br.no ?_
 refine Br.no ?_
 refine Br.no ?_
 refine Br.no ?_
 refine Br.no ?_
 refine Br.no ?_
 refine Br.no ?_
 refine Br.no ?_
 refine Br.no ?_
 refine Br.no ?_
 refine Br.no ?_
 refine Br.no ?_
 refine Br.no ?_
 refine Br.no ?_
 refine Br.no ?_
 refine Br.no ?_
 cases h;exact (by rfl)
noncomputable def De (n0:Int) (f0:List Int):Int→Option (Int ⊕ (Unit ⊕ Unit)):=fun x5=>
 if x5<n0 then
 (Hv (f0) (x5)).bind fun r2=>
 if (r2)=true then
 ask (InI (x5+(1:Int))) <|
 some (.inl (x5+(1:Int)))
 else
 some (.inr (.inl ()))
 else
 some (.inr (.inr ()))
def Oh (n0:Int) (f0:List Int):Int→St:=fun s=>[(5,A.val (Ag s)),(0,A.val (Ag (n0))),(1,A.val ((slr false 1 Ag) (f0)))]
def Vd (_n0:Int) (_f0:List Int):(Unit ⊕ Unit)→Tgt
 | (.inl _s)=>(Ex.ret,[4],[(4,A.val (V.bool (false)))])
 | (.inr _s)=>((Ex.exit 0),[],[])
theorem Agc {n0:Int} {f0:List Int} (x5:Int) (o:Int ⊕ (Unit ⊕ Unit)) (h:De n0 f0 x5=some o):vc Try.prog Wo (C1 [5,0,1] (Oh n0 f0) (Vd n0 f0) o) (Oh n0 f0 x5):=by
 unfold De at h
 try dsimp only at h
 refine Br.od h (fun p1 h=> ?_) (fun p1 h=> ?_)
 ·refine CallQ.o V.bool (by rfl) h (fun r h=>Xt h) (fun r2 h=> ?_)
  refine Br.flip ?_
  refine Br.ob h (fun p3 h=> ?_) (fun p3 h=> ?_)
  ·refine Ask.o h fun p4 h=> ?_
   cases h;exact ⟨rfl,rfl⟩
  cases h;exact ⟨rfl,rfl⟩
 cases h;exact ⟨rfl,rfl⟩
noncomputable def Fx (n0:Int) (f0:(List Int)):Option Bool:=
 (Al (De n0 f0) (0:Int)).bind fun t=>match t with
 | (.inl _)=>(some false)
 | (.inr _)=>(some true)
theorem Am0 {n0:Int} {f0:(List Int)} {v:Bool} (h:Fx n0 f0=some v):Ret Try.prog Uw [Ag n0,(slr false 1 Ag) f0] (V.bool v):=by
 refine Bb Aod (Nat.le_of_ble_eq_true rfl) ?_
 unfold Fx at h
 refine LoopQ.o [5,0,1] (Oh n0 f0) (Vd n0 f0) h (fun s o h=>Agc s o h) (by rfl) (by rintro (_ | _)<;>rfl) ?_
 rintro (⟨⟩ | ⟨⟩) h
 ·try dsimp only at h
  cases h;exact (by rfl)
 try dsimp only at h
 cases h;exact (by rfl)
noncomputable def Dr (l0:List Int) (lo0:Int) (hi0:Int):Int→Option (Int ⊕ (Unit ⊕ Unit)):=fun x7=>
 if x7<(↑l0.length:Int) then
 ask ((0:Int)≤x7∧x7<(↑l0.length:Int)) <|
 (Eg (nth l0 x7.toNat) (lo0) (hi0)).bind fun r3=>
 if (r3)=true then
 if x7>(0:Int) then
 ask (InI (x7-(1:Int))) <|
 ask ((0:Int)≤x7-(1:Int)∧x7-(1:Int)<(↑l0.length:Int)) <|
 ask ((0:Int)≤x7∧x7<(↑l0.length:Int)) <|
 if nth l0 (x7-(1:Int)).toNat≥nth l0 x7.toNat then
 some (.inr (.inl ()))
 else
 ask (InI (x7+(1:Int))) <|
 some (.inl (x7+(1:Int)))
 else
 ask (InI (x7+(1:Int))) <|
 some (.inl (x7+(1:Int)))
 else
 some (.inr (.inl ()))
 else
 some (.inr (.inr ()))
def Ly (l0:List Int) (lo0:Int) (hi0:Int):Int→St:=fun s=>[(7,A.val (Ag s)),(0,A.val ((slr false 1 Ag) (l0))),(1,A.val (Ag (lo0))),(2,A.val (Ag (hi0)))]
def Sh (_l0:List Int) (_lo0:Int) (_hi0:Int):(Unit ⊕ Unit)→Tgt
 | (.inl _s)=>(Ex.ret,[6],[(6,A.val (V.bool (false)))])
 | (.inr _s)=>((Ex.exit 0),[],[])
theorem Acu {l0:List Int} {lo0:Int} {hi0:Int} (x7:Int) (o:Int ⊕ (Unit ⊕ Unit)) (h:Dr l0 lo0 hi0 x7=some o):vc Try.prog Rp (C1 [7,0,1,2] (Ly l0 lo0 hi0) (Sh l0 lo0 hi0) o) (Ly l0 lo0 hi0 x7):=by
 unfold Dr at h
 try dsimp only at h
 refine Len.map ?_
 refine Br.od h (fun p1 h=> ?_) (fun p1 h=> ?_)
 ·refine Len.map ?_
  refine Ask.o h fun p2 h=> ?_
  refine Elem.o (by first | omega | (simp [Aw] at * <;> omega)) ?_
  refine CallP.o V.bool (by rfl) h (fun r h=>L6 h) (fun r3 h=> ?_)
  refine Br.flip ?_
  refine Br.ob h (fun p4 h=> ?_) (fun p4 h=> ?_)
  ·refine Br.no ?_
   refine Br.no ?_
   refine Br.od h (fun p5 h=> ?_) (fun p5 h=> ?_)
   ·refine Br.yes ?_
    refine Br.yes ?_
    refine Ask.o h fun p6 h=> ?_
    refine Br.yes ?_
    refine Len.map ?_
    refine Ask.o h fun p7 h=> ?_
    refine Elem.o (by first | omega | (simp [Aw] at * <;> omega)) ?_
    refine Br.yes ?_
    refine Br.yes ?_
    refine Br.yes ?_
    refine Br.yes ?_
    refine Len.map ?_
    refine Ask.o h fun p8 h=> ?_
    refine Elem.o (by first | omega | (simp [Aw] at * <;> omega)) ?_
    refine Br.yes ?_
    refine Br.yes ?_
    refine Br.no ?_
    refine Br.yes ?_
    refine Br.no ?_
    refine Br.od h (fun p9 h=> ?_) (fun p9 h=> ?_)
    ·cases h;exact ⟨rfl,rfl⟩
    refine Ask.o h fun p10 h=> ?_
    cases h;exact ⟨rfl,rfl⟩
   refine Br.no ?_
   refine Br.no ?_
   refine Br.no ?_
   refine Br.no ?_
   refine Br.no ?_
   refine Br.no ?_
   refine Br.no ?_
   refine Br.no ?_
   refine Br.no ?_
   refine Br.no ?_
   refine Br.no ?_
   refine Br.no ?_
   refine Br.no ?_
   refine Ask.o h fun p11 h=> ?_
   cases h;exact ⟨rfl,rfl⟩
  refine Br.yes ?_
  refine Br.yes ?_
  refine Br.yes ?_
  refine Br.yes ?_
  refine Br.yes ?_
  cases h;exact ⟨rfl,rfl⟩
 cases h;exact ⟨rfl,rfl⟩
noncomputable def Im (l0:(List Int)) (lo0:Int) (hi0:Int):Option Bool:=
 (Al (Dr l0 lo0 hi0) (0:Int)).bind fun t=>match t with
 | (.inl _)=>(some false)
 | (.inr _)=>(some true)
theorem Ai5 {l0:(List Int)} {lo0:Int} {hi0:Int} {v:Bool} (h:Im l0 lo0 hi0=some v):Ret Try.prog Qv [(slr false 1 Ag) l0,Ag lo0,Ag hi0] (V.bool v):=by
 refine Bb Aja (Nat.le_of_ble_eq_true rfl) ?_
 unfold Im at h
 refine LoopQ.o [7,0,1,2] (Ly l0 lo0 hi0) (Sh l0 lo0 hi0) h (fun s o h=>Acu s o h) (by rfl) (by rintro (_ | _)<;>rfl) ?_
 rintro (⟨⟩ | ⟨⟩) h
 ·try dsimp only at h
  cases h;exact (by rfl)
 try dsimp only at h
 cases h;exact (by rfl)
noncomputable def Er (_a0:SAlgebra) (in0:List Bool) (_x6:Int) (_x7:Int) (_x5':List Bool) (r5:List Int):(Int×Bool)→Option ((Int×Bool) ⊕ Bool):=fun (x10,x9)=>
 if x10<(↑r5.length:Int) then
 if (x9)=true then
 ask ((0:Int)≤x10∧x10<(↑r5.length:Int)) <|
 ask ((0:Int)≤nth r5 x10.toNat∧nth r5 x10.toNat<(↑in0.length:Int)) <|
 ask (InI (x10+(1:Int))) <|
 some (.inl (x10+(1:Int),nth in0 (nth r5 x10.toNat).toNat))
 else
 ask (InI (x10+(1:Int))) <|
 some (.inl (x10+(1:Int),false))
 else
 some (.inr x9)
def N6 (a0:SAlgebra) (in0:List Bool) (x6:Int) (x7:Int) (x5':List Bool) (r5:List Int):(Int×Bool)→St:=fun s=>[(10,A.val (Ag s.1)),(9,A.val (V.bool s.2)),(8,A.val ((slr true 1 Ag) (r5))),(7,A.val (Ag (x7))),(6,A.val (Ag (x6))),(5,A.val ((slr true 1 V.bool) (x5'))),(2,A.val ((rP true (Ae false)) (a0))),(1,A.val ((slr false 1 V.bool) (in0)))]
def Wv (a0:SAlgebra) (in0:List Bool) (x6:Int) (x7:Int) (x5':List Bool) (_r5:List Int):Bool→Tgt
 | s=>((Ex.exit 4),[9,7,6,5,2,1],[(9,A.val (V.bool s)),(7,A.val (Ag (x7))),(6,A.val (Ag (x6))),(5,A.val ((slr true 1 V.bool) (x5'))),(2,A.val ((rP true (Ae false)) (a0))),(1,A.val ((slr false 1 V.bool) (in0)))])
theorem Afz {a0:SAlgebra} {in0:List Bool} {x6:Int} {x7:Int} {x5':List Bool} {r5:List Int} (s:(Int×Bool)) (o:(Int×Bool) ⊕ Bool) (h:Er a0 in0 x6 x7 x5' r5 s=some o):vc Try.prog Va (C1 [10,9,8,7,6,5,2,1] (N6 a0 in0 x6 x7 x5' r5) (Wv a0 in0 x6 x7 x5' r5) o) (N6 a0 in0 x6 x7 x5' r5 s):=by
 obtain ⟨x10,x9⟩:=s
 unfold Er at h
 try dsimp only at h
 refine Len.map ?_
 refine Br.od h (fun p6 h=> ?_) (fun p6 h=> ?_)
 ·refine Br.ob h (fun p7 h=> ?_) (fun p7 h=> ?_)
  ·refine Br.yes ?_
   refine Br.yes ?_
   refine Br.yes ?_
   refine Len.map ?_
   refine Ask.o h fun p8 h=> ?_
   refine Br.yes ?_
   refine Cells.one (fun _=>⟨rfl,rfl⟩) (by first | omega | (simp [Aw] at * <;> omega)) ?_
   refine Br.yes ?_
   refine Len.map ?_
   refine Ask.o h fun p9 h=> ?_
   refine Elem.o (by first | omega | (simp [Aw] at * <;> omega)) ?_
   refine Br.yes ?_
   refine Br.yes ?_
   refine Ask.o h fun p10 h=> ?_
   cases h;exact ⟨rfl,rfl⟩
  refine Br.no ?_
  refine Br.no ?_
  refine Br.no ?_
  refine Br.no ?_
  refine Br.no ?_
  refine Br.no ?_
  refine Br.no ?_
  refine Ask.o h fun p11 h=> ?_
  cases h;exact ⟨rfl,rfl⟩
 cases h;exact ⟨rfl,rfl⟩
noncomputable def F3 (a0:SAlgebra) (in0:List Bool) (x6:Int):(Int×(List Bool))→Option ((Int×(List Bool)) ⊕ (List Bool)):=fun (x7,x5')=>
 ask ((0:Int)≤x6∧x6<(↑a0.Ops.length:Int)) <|
 if x7<(↑(nth a0.Ops x6.toNat).Table.length:Int) then
 ask ((0:Int)≤x6∧x6<(↑a0.Ops.length:Int)) <|
 (Fy (a0.Size) ((nth a0.Ops x6.toNat).Arity) (x7)).bind fun r5=>
 (Al (Er a0 in0 x6 x7 x5' r5) ((0:Int),true)).bind fun q12_9=>
 if (q12_9)=true then
 ask ((0:Int)≤x6∧x6<(↑a0.Ops.length:Int)) <|
 ask ((0:Int)≤x7∧x7<(↑(nth a0.Ops x6.toNat).Table.length:Int)) <|
 ask ((0:Int)≤nth (nth a0.Ops x6.toNat).Table x7.toNat∧nth (nth a0.Ops x6.toNat).Table x7.toNat<(↑x5'.length:Int)) <|
 ask (InI (x7+(1:Int))) <|
 some (.inl (x7+(1:Int),x5'.set (nth (nth a0.Ops x6.toNat).Table x7.toNat).toNat true))
 else
 ask (InI (x7+(1:Int))) <|
 some (.inl (x7+(1:Int),x5'))
 else
 some (.inr x5')
def N2 (a0:SAlgebra) (in0:List Bool) (x6:Int):(Int×(List Bool))→St:=fun s=>[(7,A.val (Ag s.1)),(6,A.val (Ag (x6))),(5,A.val ((slr true 1 V.bool) s.2)),(2,A.val ((rP true (Ae false)) (a0))),(1,A.val ((slr false 1 V.bool) (in0)))]
def Vn (a0:SAlgebra) (in0:List Bool) (x6:Int):(List Bool)→Tgt
 | s=>((Ex.exit 2),[6,5,2,1],[(6,A.val (Ag (x6))),(5,A.val ((slr true 1 V.bool) s)),(2,A.val ((rP true (Ae false)) (a0))),(1,A.val ((slr false 1 V.bool) (in0)))])
theorem Ago {a0:SAlgebra} {in0:List Bool} {x6:Int} (s:(Int×(List Bool))) (o:(Int×(List Bool)) ⊕ (List Bool)) (h:F3 a0 in0 x6 s=some o):vc Try.prog Vm (C1 [7,6,5,2,1] (N2 a0 in0 x6) (Vn a0 in0 x6) o) (N2 a0 in0 x6 s):=by
 obtain ⟨x7,x5'⟩:=s
 unfold F3 at h
 try dsimp only at h
 refine Cells.lit rfl rfl ?_
 refine Len.map ?_
 refine Ask.o h fun p2 h=> ?_
 refine Elem.o (by first | omega | (simp [Aw] at * <;> omega)) ?_
 refine Len.map ?_
 refine Br.od h (fun p3 h=> ?_) (fun p3 h=> ?_)
 ·refine Cells.lit rfl rfl ?_
  refine Cells.lit rfl rfl ?_
  refine Len.map ?_
  refine Ask.o h fun p4 h=> ?_
  refine Elem.o (by first | omega | (simp [Aw] at * <;> omega)) ?_
  refine CallQ.o (slr true 1 Ag) (by rfl) h (fun r h=>O3 h) (fun r5 h=> ?_)
  refine LoopQ.o [10,9,8,7,6,5,2,1] (N6 a0 in0 x6 x7 x5' r5) (Wv a0 in0 x6 x7 x5' r5) h (fun s o h=>Afz s o h) (by rfl) (fun _=>rfl) ?_
  rintro q12_9 h
  try dsimp only at h
  refine Br.ob h (fun p13 h=> ?_) (fun p13 h=> ?_)
  ·refine Cells.lit rfl rfl ?_
   refine Len.map ?_
   refine Ask.o h fun p14 h=> ?_
   refine Elem.o (by first | omega | (simp [Aw] at * <;> omega)) ?_
   refine Len.map ?_
   refine Ask.o h fun p15 h=> ?_
   refine Elem.o (by first | omega | (simp [Aw] at * <;> omega)) ?_
   refine Len.map ?_
   refine Ask.o h fun p16 h=> ?_
   refine SetKids.one (fun _=>⟨rfl,rfl⟩) (true) (by rfl) (by first | omega | (simp [Aw] at * <;> omega)) ?_
   refine Ask.o h fun p17 h=> ?_
   cases h;exact ⟨rfl,rfl⟩
  refine Ask.o h fun p18 h=> ?_
  cases h;exact ⟨rfl,rfl⟩
 cases h;exact ⟨rfl,rfl⟩
noncomputable def Hm (a0:SAlgebra) (in0:List Bool):(Int×(List Bool))→Option ((Int×(List Bool)) ⊕ (List Bool)):=fun (x6,x5)=>
 if x6<(↑a0.Ops.length:Int) then
 (Al (F3 a0 in0 x6) ((0:Int),x5)).bind fun q19_5=>
 ask (InI (x6+(1:Int))) <|
 some (.inl (x6+(1:Int),q19_5))
 else
 some (.inr x5)
def Oa (a0:SAlgebra) (in0:List Bool):(Int×(List Bool))→St:=fun s=>[(6,A.val (Ag s.1)),(5,A.val ((slr true 1 V.bool) s.2)),(2,A.val ((rP true (Ae false)) (a0))),(1,A.val ((slr false 1 V.bool) (in0)))]
def Ws (_a0:SAlgebra) (_in0:List Bool):(List Bool)→Tgt
 | s=>((Ex.exit 0),[5],[(5,A.val ((slr true 1 V.bool) s))])
theorem Agh {a0:SAlgebra} {in0:List Bool} (s:(Int×(List Bool))) (o:(Int×(List Bool)) ⊕ (List Bool)) (h:Hm a0 in0 s=some o):vc Try.prog Ww (C1 [6,5,2,1] (Oa a0 in0) (Ws a0 in0) o) (Oa a0 in0 s):=by
 obtain ⟨x6,x5⟩:=s
 unfold Hm at h
 try dsimp only at h
 refine Cells.lit rfl rfl ?_
 refine Len.map ?_
 refine Br.od h (fun p1 h=> ?_) (fun p1 h=> ?_)
 ·refine LoopQ.o [7,6,5,2,1] (N2 a0 in0 x6) (Vn a0 in0 x6) h (fun s o h=>Ago s o h) (by rfl) (fun _=>rfl) ?_
  rintro q19_5 h
  try dsimp only at h
  refine Ask.o h fun p20 h=> ?_
  cases h;exact ⟨rfl,rfl⟩
 cases h;exact ⟨rfl,rfl⟩
noncomputable def La (a0:SAlgebra) (in0:(List Bool)):Option (List Bool):=
 ask ((Ao Bool).length+(in0).length≤LIM) <|
 (Al (Hm a0 in0) ((0:Int),Ao Bool++in0)).bind fun q21_5=>
 some q21_5
theorem Amy {a0:SAlgebra} {in0:(List Bool)} {v:(List Bool)} (h:La a0 in0=some v):Ret Try.prog Uv [(Ae false) a0,(slr false 1 V.bool) in0] ((slr true 1 V.bool) v):=by
 refine Bb Aop (Nat.le_of_ble_eq_true rfl) ?_
 unfold La at h
 refine BslQ.o V.bool (Ao Bool) (by exact fun _=>⟨rfl,rfl⟩) (by first | rfl | (simp only [Aa,V.fz,fzL,V.up,upL,Ab,Ac,Ad,slr,List.cons_append,List.nil_append];done) | simp [Aa,V.fz,fzL,V.up,upL,Ab,Ac,Ad,slr]) ?_
 refine AppQ.o (m:=1) V.bool (by exact fun _=>⟨rfl,rfl⟩) (Ao Bool) (in0) (by rfl) (by rfl) h fun h=> ?_
 refine LoopQ.o [6,5,2,1] (Oa a0 in0) (Ws a0 in0) h (fun s o h=>Agh s o h) (by rfl) (fun _=>rfl) ?_
 rintro q21_5 h
 try dsimp only at h
 cases h;exact (by rfl)
noncomputable def Mz (a0:SAlgebra) (b0:SAlgebra) (f0:(List Int)):Option Bool:=
 (Mt (a0) (b0) (f0)).bind fun r1=>
 if (r1)=true then
 (Hr (a0) (b0) (f0)).bind fun r3=>
 some (decide (r3.fst<(0:Int)))
 else
 some false
theorem Arq {a0:SAlgebra} {b0:SAlgebra} {f0:(List Int)} {v:Bool} (h:Mz a0 b0 f0=some v):Ret Try.prog W1 [(Ae false) a0,(Ae false) b0,(slr false 1 Ag) f0] (V.bool v):=by
 refine Bb Asl (Nat.le_of_ble_eq_true rfl) ?_
 unfold Mz at h
 refine Cells.lit rfl rfl ?_
 refine Cells.lit rfl rfl ?_
 refine CallQ.o V.bool (by rfl) h (fun r h=>Ap5 h) (fun r1 h=> ?_)
 refine Br.flip ?_
 refine Br.ob h (fun p2 h=> ?_) (fun p2 h=> ?_)
 ·refine Cells.lit rfl rfl ?_
  refine Cells.lit rfl rfl ?_
  refine CallQ.o (fun r=>V.tup [Ag r.1,Ag r.2]) (by rfl) h (fun r h=>Akm h) (fun r3 h=> ?_)
  cases h;exact (by rfl)
 cases h;exact (by rfl)
noncomputable def Eu (f0:(List Int)) (a1:SAlgebra):Option Bool:=
 (Ig (f0) (a1.Size)).bind fun r1=>
 some ((↑r1.length:Int)==a1.Size)
theorem Rs {f0:(List Int)} {a1:SAlgebra} {v:Bool} (h:Eu f0 a1=some v):Ret Try.prog H5 [(slr false 1 Ag) f0,(rP false (Ae false)) a1] (V.bool v):=by
 refine Bb Ac7 (Nat.le_of_ble_eq_true rfl) ?_
 unfold Eu at h
 refine CallP.o (slr true 1 Ag) (by rfl) h (fun r h=>Aiu h) (fun r1 h=> ?_)
 refine Len.map ?_
 cases h;exact (by rfl)
noncomputable def Da (c0:Sl1Cur) (n0:Int):Option (Bool×Sl1Cur):=
 (Aq (c0) (n0)).bind fun (r1,u2)=>
 some (r1==(0:Int),u2)
theorem Kf {c0:Sl1Cur} {n0:Int} {v:(Bool×Sl1Cur)} (h:Da c0 n0=some v):H8 Try.prog F1 [(rP true (Aj false)) c0,Ag n0] (V.bool v.1) 0 ((rP true (Aj false)) v.2):=by
 refine I7 Afr (Nat.le_of_ble_eq_true rfl) ?_
 unfold Da at h
 refine CallQ.io Ag (rP true (Aj false)) (by rfl) rfl (fun _=>rfl) (fun _=>⟨rfl,rfl⟩) rfl h (fun r h=>A4 h) (fun r1 u2 h=> ?_)
 cases h;exact ⟨(by rfl),(by rfl)⟩
end Go.Proofs.Ytmkgjnphianalaa.Ax
