/-
 What the functions compute, as functions on plain data, and that the program does compute it; written by program.
-/
import Derived.Test.YtpfikenknmlajaaCode
import Derived.Test.YtpfikenknmlajaaG6
import Derived.Test.YtpfikenknmlajaaG9
import Derived.Test.YtpfikenknmlajaaG10
import Derived.Test.YtpfikenknmlajaaG12
namespace Go.Proofs.Ytpfikenknmlajaa.Ax
open Go
set_option maxRecDepth 100000
set_option maxHeartbeats 4000000
noncomputable def Bs (self:SPoset→Int→List Bool→List Bool→List Int→Option (Bool×List Bool×List Int)) (p0:SPoset) (x0:Int) (taken0:List Bool):(Int×(List Bool)×(List Int))→Option ((Int×(List Bool)×(List Int)) ⊕ (((List Bool)×(List Int)) ⊕ ((List Bool)×(List Int)))):=fun (x11,x62,x63)=>
 if x11<(↑p0.Below.length:Int) then
 (((Hh (p0) (x0) (x11)).bind fun r2=>
 if (r2)=true then
 ask ((0:Int)≤x11∧x11<(↑taken0.length:Int)) <|
 if (nth taken0 x11.toNat)=true then
 some (.inl ())
 else
 ask ((0:Int)≤x11∧x11<(↑x62.length:Int)) <|
 if (nth x62 x11.toNat)=true then
 some (.inl ())
 else
 some (.inr ())
 else
 some (.inl ()):Option (Unit ⊕ Unit))).bind fun t=>match t with
 | (.inl _)=>(ask (InI (x11+(1:Int))) <|
 some (.inl (x11+(1:Int),x62,x63)))
 | (.inr _)=>(ask ((0:Int)≤x11∧x11<(↑x62.length:Int)) <|
 ask ((0:Int)≤x11∧x11<(↑x63.length:Int)) <|
 if nth x63 x11.toNat<(0:Int) then
 ask ((0:Int)≤x11∧x11<(↑x63.length:Int)) <|
 some (.inr (.inl (x62.set x11.toNat true,x63.set x11.toNat x0)))
 else
 ask ((0:Int)≤x11∧x11<(↑x63.length:Int)) <|
 (self (p0) (nth x63 x11.toNat) (taken0) (x62.set x11.toNat true) (x63)).bind fun (r15,u16,u17)=>
 if (r15)=true then
 ask ((0:Int)≤x11∧x11<(↑u17.length:Int)) <|
 some (.inr (.inl (u16,u17.set x11.toNat x0)))
 else
 ask (InI (x11+(1:Int))) <|
 some (.inl (x11+(1:Int),u16,u17)))
 else
 some (.inr (.inr (x62,x63)))
def M8 (p0:SPoset) (x0:Int) (taken0:List Bool):(Int×(List Bool)×(List Int))→St:=fun s=>[(11,A.val (Af s.1)),(5,A.val ((rP true (Ag false)) (p0))),(1,A.val (Af (x0))),(2,A.val ((slr false 1 V.bool) (taken0))),(3,A.ref 62 []),(62,A.val ((slr true 1 V.bool) s.2.1)),(4,A.ref 63 []),(63,A.val ((slr true 1 Af) s.2.2))]
def Ux (_p0:SPoset) (_x0:Int) (_taken0:List Bool):(((List Bool)×(List Int)) ⊕ ((List Bool)×(List Int)))→Tgt
 | (.inl s)=>(Ex.ret,[10,62,63],[(10,A.val (V.bool (true))),(62,A.val ((slr true 1 V.bool) s.1)),(63,A.val ((slr true 1 Af) s.2))])
 | (.inr s)=>((Ex.exit 0),[62,63],[(62,A.val ((slr true 1 V.bool) s.1)),(63,A.val ((slr true 1 Af) s.2))])
theorem Afp {self:SPoset→Int→List Bool→List Bool→List Int→Option (Bool×List Bool×List Int)} {p0:SPoset} {x0:Int} {taken0:List Bool} (hself : ∀ {w_0 w_1 w_2 w_3 w_4 v},self w_0 w_1 w_2 w_3 w_4=some v→Anf Try.prog Fl [(Ag false) w_0,Af w_1,(slr false 1 V.bool) w_2,(slr true 1 V.bool) w_3,(slr true 1 Af) w_4] (V.bool v.1) 3 ((slr true 1 V.bool) v.2.1) 4 ((slr true 1 Af) v.2.2)) (s:(Int×(List Bool)×(List Int))) (o:(Int×(List Bool)×(List Int)) ⊕ (((List Bool)×(List Int)) ⊕ ((List Bool)×(List Int)))) (h:Bs self p0 x0 taken0 s=some o):vc Try.prog Ua (Cc [11,5,1,2,3,62,4,63] (M8 p0 x0 taken0) (Ux p0 x0 taken0) o) (M8 p0 x0 taken0 s):=by
 obtain ⟨x11,x62,x63⟩:=s
 unfold Bs at h
 try dsimp only at h
 refine Cells.lit rfl rfl<|Len.map<|Br.od h (fun p1 h=> ?_) (fun p1 h=> ?_)
 ·refine CutQ.o (fun t:(Unit ⊕ Unit)=>match t with | (.inl s)=>((Ex.exit 1),[11,5,1,2,3,62,4,63],[(11,A.val (Af (x11))),(5,A.val ((rP true (Ag false)) (p0))),(1,A.val (Af (x0))),(2,A.val ((slr false 1 V.bool) (taken0))),(3,A.ref 62 []),(62,A.val ((slr true 1 V.bool) (x62))),(4,A.ref 63 []),(63,A.val ((slr true 1 Af) (x63)))]) | (.inr s)=>(Ex.normal,[11,5,1,2,3,62,4,63],[(11,A.val (Af (x11))),(5,A.val ((rP true (Ag false)) (p0))),(1,A.val (Af (x0))),(2,A.val ((slr false 1 V.bool) (taken0))),(3,A.ref 62 []),(62,A.val ((slr true 1 V.bool) (x62))),(4,A.ref 63 []),(63,A.val ((slr true 1 Af) (x63)))])) h ?_ ?_
  ·intro t h
   refine Cells.lit rfl rfl<|CallQ.o V.bool (by rfl) h (fun r h=>Ui h) (fun r2 h=> ?_)
   refine Br.flip<|Br.ob h (fun p3 h=> ?_) (fun p3 h=> ?_)
   ·refine Br.no<|Br.no<|Len.map<|Ask.o h fun p4 h=>Elem.o (by first | omega | (simp [Ak] at * <;> omega))<|Br.no<|Br.no<|Br.ob h (fun p5 h=> ?_) (fun p5 h=> ?_)
    ·refine Br.yes<|Br.yes<|Br.yes<|Br.yes<|Br.yes ?_
     cases h;exact ⟨rfl,rfl⟩
    refine Br.no<|Br.no<|Len.map<|Ask.o h fun p6 h=>Br.no<|Cells.one (fun _=>⟨rfl,rfl⟩) (by first | omega | (simp [Ak] at * <;> omega))<|Br.no<|Br.ob h (fun p7 h=> ?_) (fun p7 h=> ?_)
    ·cases h;exact ⟨rfl,rfl⟩
    cases h;exact ⟨rfl,rfl⟩
   refine Br.yes<|Br.yes<|Br.yes<|Br.yes<|Br.yes<|Br.yes<|Br.yes<|Br.yes<|Br.yes<|Br.yes ?_
   cases h;exact ⟨rfl,rfl⟩
  rintro (⟨⟩ | ⟨⟩) h
  ·try dsimp only at h
   refine Ask.o h fun p9 h=> ?_
   cases h;exact ⟨rfl,rfl⟩
  try dsimp only at h
  refine Len.map<|Ask.o h fun p10 h=>SetKids.one (fun _=>⟨rfl,rfl⟩) (true) (by rfl) (by first | omega | (simp [Ak] at * <;> omega))<|Len.map<|Ask.o h fun p11 h=>Cells.one (fun _=>⟨rfl,rfl⟩) (by first | omega | (simp [Ak] at * <;> omega))<|Br.od h (fun p12 h=> ?_) (fun p12 h=> ?_)
  ·refine Br.yes<|Br.yes<|Br.yes<|Br.yes<|Br.yes<|Br.yes<|Br.yes<|Br.yes<|Br.yes<|Br.yes<|Len.map<|Ask.o h fun p13 h=>SetKids.one (fun _=>⟨rfl,rfl⟩) (x0) (by rfl) (by first | omega | (simp [Ak] at * <;> omega)) ?_
   cases h;exact ⟨rfl,rfl⟩
  refine Cells.lit rfl rfl<|Br.no<|Br.no<|Br.no<|Len.map<|Ask.o h fun p14 h=>Br.no<|Cells.one (fun _=>⟨rfl,rfl⟩) (by first | omega | (simp [Ak] at * <;> omega))<|Br.no<|Br.no<|Br.no<|Br.no<|CallQ.io2 V.bool (slr true 1 V.bool) (slr true 1 Af) (by rfl) rfl rfl (fun _=>rfl) (fun _=>⟨rfl,rfl⟩) (fun _=>⟨rfl,rfl⟩) rfl rfl h (fun r h=>hself h) (fun r15 u16 u17 h=> ?_)
  refine Br.no<|Br.ob h (fun p18 h=> ?_) (fun p18 h=> ?_)
  ·refine Len.map<|Ask.o h fun p19 h=>SetKids.one (fun _=>⟨rfl,rfl⟩) (x0) (by rfl) (by first | omega | (simp [Ak] at * <;> omega)) ?_
   cases h;exact ⟨rfl,rfl⟩
  refine Ask.o h fun p20 h=> ?_
  cases h;exact ⟨rfl,rfl⟩
 cases h;exact ⟨rfl,rfl⟩
noncomputable def D4 (self:SPoset→Int→(List Bool)→(List Bool)→(List Int)→Option (Bool×(List Bool)×(List Int))) (p0:SPoset) (x0:Int) (taken0:(List Bool)) (seen0:(List Bool)) (owner0:(List Int)):Option (Bool×(List Bool)×(List Int)):=
 (Aj (Bs self p0 x0 taken0) ((0:Int),seen0,owner0)).bind fun t=>match t with
 | (.inl (q21_62,q21_63))=>(some (true,q21_62,q21_63))
 | (.inr (q21_62,q21_63))=>(some (false,q21_62,q21_63))
noncomputable def Bg:Nat→SPoset→Int→(List Bool)→(List Bool)→(List Int)→Option (Bool×(List Bool)×(List Int))
 | 0=>fun _ _ _ _ _=>none
 | n+1=>D4 (Bg n)
theorem Ait {self:SPoset→Int→(List Bool)→(List Bool)→(List Int)→Option (Bool×(List Bool)×(List Int))} (hself : ∀ {w_0 w_1 w_2 w_3 w_4 v},self w_0 w_1 w_2 w_3 w_4=some v→Anf Try.prog Fl [(Ag false) w_0,Af w_1,(slr false 1 V.bool) w_2,(slr true 1 V.bool) w_3,(slr true 1 Af) w_4] (V.bool v.1) 3 ((slr true 1 V.bool) v.2.1) 4 ((slr true 1 Af) v.2.2)) {p0:SPoset} {x0:Int} {taken0:(List Bool)} {seen0:(List Bool)} {owner0:(List Int)} {v:(Bool×(List Bool)×(List Int))} (h:D4 self p0 x0 taken0 seen0 owner0=some v):Anf Try.prog Fl [(Ag false) p0,Af x0,(slr false 1 V.bool) taken0,(slr true 1 V.bool) seen0,(slr true 1 Af) owner0] (V.bool v.1) 3 ((slr true 1 V.bool) v.2.1) 4 ((slr true 1 Af) v.2.2):=by
 refine A28 Ame (Nat.le_of_ble_eq_true rfl) ?_
 unfold D4 at h
 refine LoopQ.o [11,5,1,2,3,62,4,63] (M8 p0 x0 taken0) (Ux p0 x0 taken0) h (fun s o h=>Afp hself s o h) (by rfl) (by rintro (_ | _)<;>rfl) ?_
 rintro (⟨q21_62,q21_63⟩ | ⟨q21_62,q21_63⟩) h
 ·try dsimp only at h
  cases h;exact ⟨(by rfl),(by rfl),(by rfl)⟩
 try dsimp only at h
 cases h;exact ⟨(by rfl),(by rfl),(by rfl)⟩
theorem Vk : ∀(n:Nat) {p0:SPoset} {x0:Int} {taken0:(List Bool)} {seen0:(List Bool)} {owner0:(List Int)} {v:(Bool×(List Bool)×(List Int))},Bg n p0 x0 taken0 seen0 owner0=some v→Anf Try.prog Fl [(Ag false) p0,Af x0,(slr false 1 V.bool) taken0,(slr true 1 V.bool) seen0,(slr true 1 Af) owner0] (V.bool v.1) 3 ((slr true 1 V.bool) v.2.1) 4 ((slr true 1 Af) v.2.2)
 | 0,_,_,_,_,_,_,h=>by cases h
 | n+1,_,_,_,_,_,_,h=>Ait (fun h=>Vk n h) h
theorem Al9 {p0:SPoset} {x0:Int} {taken0:(List Bool)} {seen0:(List Bool)} {owner0:(List Int)} {v:(Bool×(List Bool)×(List Int))} (h:(Afn fun n=>Bg n p0 x0 taken0 seen0 owner0)=some v):Anf Try.prog Fl [(Ag false) p0,Af x0,(slr false 1 V.bool) taken0,(slr true 1 V.bool) seen0,(slr true 1 Af) owner0] (V.bool v.1) 3 ((slr true 1 V.bool) v.2.1) 4 ((slr true 1 Af) v.2.2):=by
 obtain ⟨n,hn⟩:=Aj4 h
 exact Vk n hn
noncomputable def Es (n0:Int):(Int×(List Int)×Sl1Cur)→Option ((Int×(List Int)×Sl1Cur) ⊕ ((List Int)×Sl1Cur)):=fun (x6,x5,x53)=>
 if x6<n0 then
 ask (InI ((↑x5.length:Int)+(1:Int))) <|
 (Bp (x53) ((↑x5.length:Int)+(1:Int))).bind fun (r3,u4)=>
 ask (0≤(0:Int)∧(0:Int)≤r3∧r3≤((x5.length:Nat):Int)) <|
 ask ((Ar Int).length+(List.take (r3.toNat-Int.toNat (0:Int)) (List.drop (Int.toNat (0:Int)) x5)).length≤LIM) <|
 ask ((Ar Int++List.take (r3.toNat-Int.toNat (0:Int)) (List.drop (Int.toNat (0:Int)) x5)).length+([x6]).length≤LIM) <|
 ask (0≤r3∧r3≤(↑x5.length:Int)∧(↑x5.length:Int)≤((x5.length:Nat):Int)) <|
 ask ((Ar Int++List.take (r3.toNat-Int.toNat (0:Int)) (List.drop (Int.toNat (0:Int)) x5)++[x6]).length+(List.take ((↑x5.length:Int).toNat-r3.toNat) (List.drop r3.toNat x5)).length≤LIM) <|
 ask (InI (x6+(1:Int))) <|
 some (.inl (x6+(1:Int),Ar Int++List.take (r3.toNat-Int.toNat (0:Int)) (List.drop (Int.toNat (0:Int)) x5)++[x6]++List.take ((↑x5.length:Int).toNat-r3.toNat) (List.drop r3.toNat x5),u4))
 else
 some (.inr (x5,x53))
def Jm (n0:Int):(Int×(List Int)×Sl1Cur)→St:=fun s=>[(6,A.val (Af s.1)),(5,A.val ((slr true 1 Af) s.2.1)),(0,A.ref 53 []),(53,A.val ((rP true (At false)) s.2.2)),(1,A.val (Af (n0)))]
def O7 (n0:Int):((List Int)×Sl1Cur)→Tgt
 | s=>((Ex.exit 0),[5,0,53,1],[(5,A.val ((slr true 1 Af) s.1)),(0,A.ref 53 []),(53,A.val ((rP true (At false)) s.2)),(1,A.val (Af (n0)))])
theorem Zg {n0:Int} (s:(Int×(List Int)×Sl1Cur)) (o:(Int×(List Int)×Sl1Cur) ⊕ ((List Int)×Sl1Cur)) (h:Es n0 s=some o):vc Try.prog N2 (Cc [6,5,0,53,1] (Jm n0) (O7 n0) o) (Jm n0 s):=by
 obtain ⟨x6,x5,x53⟩:=s
 unfold Es at h
 try dsimp only at h
 refine Br.od h (fun p1 h=> ?_) (fun p1 h=> ?_)
 ·refine Len.map<|Ask.o h fun p2 h=>CallQ.io Af (rP true (At false)) (by rfl) rfl (fun _=>rfl) (fun _=>⟨rfl,rfl⟩) rfl h (fun r h=>Dc h) (fun r3 u4 h=> ?_)
  refine FrzQ.d (V.sl false (1:Nat) (List.map Af x5)) (by first | (simp only [slr];done) | (simp [Gp,V.fz,Ab,slr];done) | (simp [Gp,V.fz,fzL,Ab,slr];done))<|BslQ.o Af (Ar Int) (by exact fun _=>⟨rfl,rfl⟩) (by first | rfl | (simp only [Aa,V.fz,fzL,V.up,upL,Ab,Ac,Ad,slr,List.cons_append,List.nil_append];done) | simp [Aa,V.fz,fzL,V.up,upL,Ab,Ac,Ad,slr])<|SlcQ.o Af h fun h=>AppQ.o (m:=1) Af (by exact fun _=>⟨rfl,rfl⟩) (Ar Int) (List.take (r3.toNat-Int.toNat (0:Int)) (List.drop (Int.toNat (0:Int)) x5)) (by rfl) (by rfl) h fun h=>BslQ.o Af [x6] (by exact fun _=>⟨rfl,rfl⟩) (by first | rfl | (simp only [Aa,V.fz,fzL,V.up,upL,Ab,Ac,Ad,slr,List.cons_append,List.nil_append];done) | simp [Aa,V.fz,fzL,V.up,upL,Ab,Ac,Ad,slr])<|NoOwn.o (fun _=>rfl)<|AppQ.o (m:=1) Af (by exact fun _=>⟨rfl,rfl⟩) (Ar Int++List.take (r3.toNat-Int.toNat (0:Int)) (List.drop (Int.toNat (0:Int)) x5)) ([x6]) (by rfl) (by rfl) h fun h=>Len.map<|SlcQ.o Af h fun h=>AppQ.o (m:=1) Af (by exact fun _=>⟨rfl,rfl⟩) (Ar Int++List.take (r3.toNat-Int.toNat (0:Int)) (List.drop (Int.toNat (0:Int)) x5)++[x6]) (List.take ((↑x5.length:Int).toNat-r3.toNat) (List.drop r3.toNat x5)) (by rfl) (by rfl) h fun h=>Ask.o h fun p5 h=> ?_
  cases h;exact ⟨rfl,rfl⟩
 cases h;exact ⟨rfl,rfl⟩
noncomputable def Fi (c0:Sl1Cur) (n0:Int):Option ((List Int)×Sl1Cur):=
 (Aj (Es n0) ((0:Int),Ar Int,c0)).bind fun (q6_5,q6_53)=>
 (Bp (q6_53) ((24:Int))).bind fun (r7,u8)=>
 if r7=(0:Int) then
 ask ((q6_5).length+([n0]).length≤LIM) <|
 some (q6_5++[n0],u8)
 else
 if r7=(1:Int) then
 if n0>(0:Int) then
 (Bp (u8) (n0)).bind fun (r12,u13)=>
 (F5 (u13) ([(0:Int),(-1:Int),n0])).bind fun (r14,u15)=>
 ask ((0:Int)≤r12∧r12<(↑q6_5.length:Int)) <|
 some (q6_5.set r12.toNat r14,u15)
 else
 some (q6_5,u8)
 else
 some (q6_5,u8)
theorem Adq {c0:Sl1Cur} {n0:Int} {v:((List Int)×Sl1Cur)} (h:Fi c0 n0=some v):Aey Try.prog Mh [(rP true (At false)) c0,Af n0] ((slr true 1 Af) v.1) 0 ((rP true (At false)) v.2):=by
 refine Aij Ado (Nat.le_of_ble_eq_true rfl) ?_
 unfold Fi at h
 refine BslQ.o Af (Ar Int) (by exact fun _=>⟨rfl,rfl⟩) (by first | rfl | (simp only [Aa,V.fz,fzL,V.up,upL,Ab,Ac,Ad,slr,List.cons_append,List.nil_append];done) | simp [Aa,V.fz,fzL,V.up,upL,Ab,Ac,Ad,slr])<|LoopQ.o [6,5,0,53,1] (Jm n0) (O7 n0) h (fun s o h=>Zg s o h) (by rfl) (fun _=>rfl) ?_
 rintro ⟨q6_5,q6_53⟩ h
 try dsimp only at h
 refine CallQ.io Af (rP true (At false)) (by rfl) rfl (fun _=>rfl) (fun _=>⟨rfl,rfl⟩) rfl h (fun r h=>Dc h) (fun r7 u8 h=> ?_)
 refine Br.oe h (fun p9 h=> ?_) (fun p9 h=> ?_)
 ·refine BslQ.o Af [n0] (by exact fun _=>⟨rfl,rfl⟩) (by first | rfl | (simp only [Aa,V.fz,fzL,V.up,upL,Ab,Ac,Ad,slr,List.cons_append,List.nil_append];done) | simp [Aa,V.fz,fzL,V.up,upL,Ab,Ac,Ad,slr])<|NoOwn.o (fun _=>rfl)<|AppQ.o (m:=1) Af (by exact fun _=>⟨rfl,rfl⟩) (q6_5) ([n0]) (by rfl) (by rfl) h fun h=> ?_
  cases h;exact ⟨(by rfl),(by rfl)⟩
 refine Br.oe h (fun p10 h=> ?_) (fun p10 h=> ?_)
 ·refine Br.od h (fun p11 h=> ?_) (fun p11 h=> ?_)
  ·refine CallQ.io Af (rP true (At false)) (by rfl) rfl (fun _=>rfl) (fun _=>⟨rfl,rfl⟩) rfl h (fun r h=>Dc h) (fun r12 u13 h=> ?_)
   refine BslQ.o Af ([(0:Int),(-1:Int),n0]) (by exact fun _=>⟨rfl,rfl⟩) (by first | rfl | (simp only [Aa,V.fz,fzL,V.up,upL,Ab,Ac,Ad,slr,List.cons_append,List.nil_append];done) | simp [Aa,V.fz,fzL,V.up,upL,Ab,Ac,Ad,slr])<|CallQ.io Af (rP true (At false)) (by first | rfl | (simp only [Aa,Gp,V.fz,fzL,Ab,Ac,slr];done) | simp [Aa,Gp,V.fz,fzL,V.up,upL,Ab,Ac,Ad,slr]) rfl (fun _=>rfl) (fun _=>⟨rfl,rfl⟩) rfl h (fun r h=>Ug h) (fun r14 u15 h=> ?_)
   refine Len.map<|Ask.o h fun p16 h=>SetKids.one (fun _=>⟨rfl,rfl⟩) (r14) (by rfl) (by first | omega | (simp [Ak] at * <;> omega)) ?_
   cases h;exact ⟨(by rfl),(by rfl)⟩
  cases h;exact ⟨(by rfl),(by rfl)⟩
 cases h;exact ⟨(by rfl),(by rfl)⟩
noncomputable def Cm (p0:SPoset):Option ((List Int)×Bool):=
 (Gi (p0)).bind fun r1=>
 if (r1)=true then
 (Ig (p0)).bind fun r3=>
 some (r3,true)
 else
 some (Ar Int,false)
theorem X5 {p0:SPoset} {v:((List Int)×Bool)} (h:Cm p0=some v):Ret Try.prog I6 [(Ag false) p0] ((fun r=>V.tup [(slr true 1 Af) r.1,V.bool r.2]) v):=by
 refine A6 Yg (Nat.le_of_ble_eq_true rfl) ?_
 unfold Cm at h
 refine Cells.lit rfl rfl<|CallQ.o V.bool (by rfl) h (fun r h=>Pa h) (fun r1 h=> ?_)
 refine Br.flip<|Br.ob h (fun p2 h=> ?_) (fun p2 h=> ?_)
 ·refine Cells.lit rfl rfl<|CallQ.o (slr true 1 Af) (by rfl) h (fun r h=>Air h) (fun r3 h=> ?_)
  cases h;exact (by rfl)
 refine BslQ.o Af (Ar Int) (by exact fun _=>⟨rfl,rfl⟩) (by first | rfl | (simp only [Aa,V.fz,fzL,V.up,upL,Ab,Ac,Ad,slr,List.cons_append,List.nil_append];done) | simp [Aa,V.fz,fzL,V.up,upL,Ab,Ac,Ad,slr]) ?_
 cases h;exact (by rfl)
noncomputable def Cv (p0:SPoset) (_from0:Int) (_taken0:List Bool):(Int×(List Int))→Option ((Int×(List Int)) ⊕ (List Int)):=fun (x8,x7)=>
 if x8<(↑p0.Below.length:Int) then
 ask ((x7).length+([(-1:Int)]).length≤LIM) <|
 ask (InI (x8+(1:Int))) <|
 some (.inl (x8+(1:Int),x7++[(-1:Int)]))
 else
 some (.inr x7)
def Jd (p0:SPoset) (from0:Int) (taken0:List Bool):(Int×(List Int))→St:=fun s=>[(8,A.val (Af s.1)),(7,A.val ((slr true 1 Af) s.2)),(3,A.val ((rP true (Ag false)) (p0))),(1,A.val (Af (from0))),(2,A.val ((slr false 1 V.bool) (taken0)))]
def Ph (p0:SPoset) (from0:Int) (taken0:List Bool):(List Int)→Tgt
 | s=>((Ex.exit 0),[7,3,1,2],[(7,A.val ((slr true 1 Af) s)),(3,A.val ((rP true (Ag false)) (p0))),(1,A.val (Af (from0))),(2,A.val ((slr false 1 V.bool) (taken0)))])
theorem Zi {p0:SPoset} {from0:Int} {taken0:List Bool} (s:(Int×(List Int))) (o:(Int×(List Int)) ⊕ (List Int)) (h:Cv p0 from0 taken0 s=some o):vc Try.prog N5 (Cc [8,7,3,1,2] (Jd p0 from0 taken0) (Ph p0 from0 taken0) o) (Jd p0 from0 taken0 s):=by
 obtain ⟨x8,x7⟩:=s
 unfold Cv at h
 try dsimp only at h
 refine Cells.lit rfl rfl<|Len.map<|Br.od h (fun p1 h=> ?_) (fun p1 h=> ?_)
 ·refine BslQ.o Af ([(-1:Int)]) (by exact fun _=>⟨rfl,rfl⟩) (by first | rfl | (simp only [Aa,V.fz,fzL,V.up,upL,Ab,Ac,Ad,slr,List.cons_append,List.nil_append];done) | simp [Aa,V.fz,fzL,V.up,upL,Ab,Ac,Ad,slr])<|NoOwn.o (fun _=>rfl)<|AppQ.o (m:=1) Af (by exact fun _=>⟨rfl,rfl⟩) (x7) ([(-1:Int)]) (by rfl) (by rfl) h fun h=>Ask.o h fun p2 h=> ?_
  cases h;exact ⟨rfl,rfl⟩
 cases h;exact ⟨rfl,rfl⟩
noncomputable def E4 (p0:SPoset) (taken0:List Bool):(Int×Int×(List Int))→Option ((Int×Int×(List Int)) ⊕ Int):=fun (x10,x9,x7)=>
 if x10<(↑p0.Below.length:Int) then
 ask ((0:Int)≤(↑p0.Below.length:Int)∧(↑p0.Below.length:Int)≤(↑LIM:Int)) <|
 (Afn fun n=>Bg n (p0) (x10) (taken0) (List.replicate (↑p0.Below.length:Int).toNat false) (x7)).bind fun (r6,_u7,u8)=>
 if (r6)=true then
 ask (InI (x9+(1:Int))) <|
 ask (InI (x10+(1:Int))) <|
 some (.inl (x10+(1:Int),x9+(1:Int),u8))
 else
 ask (InI (x10+(1:Int))) <|
 some (.inl (x10+(1:Int),x9,u8))
 else
 some (.inr x9)
def Jh (p0:SPoset) (taken0:List Bool):(Int×Int×(List Int))→St:=fun s=>[(10,A.val (Af s.1)),(9,A.val (Af s.2.1)),(7,A.val ((slr true 1 Af) s.2.2)),(3,A.val ((rP true (Ag false)) (p0))),(2,A.val ((slr false 1 V.bool) (taken0)))]
def O8 (_p0:SPoset) (_taken0:List Bool):Int→Tgt
 | s=>((Ex.exit 2),[9],[(9,A.val (Af s))])
theorem Aam {p0:SPoset} {taken0:List Bool} (s:(Int×Int×(List Int))) (o:(Int×Int×(List Int)) ⊕ Int) (h:E4 p0 taken0 s=some o):vc Try.prog Oy (Cc [10,9,7,3,2] (Jh p0 taken0) (O8 p0 taken0) o) (Jh p0 taken0 s):=by
 obtain ⟨x10,x9,x7⟩:=s
 unfold E4 at h
 try dsimp only at h
 refine Cells.lit rfl rfl<|Len.map<|Br.od h (fun p4 h=> ?_) (fun p4 h=> ?_)
 ·refine Cells.lit rfl rfl<|Cells.lit rfl rfl<|Len.map<|Ask.o h fun p5 h=>MkQ.o V.bool (false) rfl<|CallQ.io2 V.bool (slr true 1 V.bool) (slr true 1 Af) (by rfl) rfl rfl (fun _=>rfl) (fun _=>⟨rfl,rfl⟩) (fun _=>⟨rfl,rfl⟩) rfl rfl h (fun r h=>Al9 h) (fun r6 u7 u8 h=> ?_)
  refine Br.ob h (fun p9 h=> ?_) (fun p9 h=> ?_)
  ·refine Ask.o h fun p10 h=>Ask.o h fun p11 h=> ?_
   cases h;exact ⟨rfl,rfl⟩
  refine Ask.o h fun p12 h=> ?_
  cases h;exact ⟨rfl,rfl⟩
 cases h;exact ⟨rfl,rfl⟩
noncomputable def Fj (p0:SPoset) (from0:Int) (taken0:(List Bool)):Option Int:=
 (Aj (Cv p0 from0 taken0) ((0:Int),Ar Int)).bind fun q3_7=>
 (Aj (E4 p0 taken0) (from0,(0:Int),q3_7)).bind fun q13_9=>
 some q13_9
theorem Sy {p0:SPoset} {from0:Int} {taken0:(List Bool)} {v:Int} (h:Fj p0 from0 taken0=some v):Ret Try.prog Ip [(Ag false) p0,Af from0,(slr false 1 V.bool) taken0] (Af v):=by
 refine A6 Aeg (Nat.le_of_ble_eq_true rfl) ?_
 unfold Fj at h
 refine BslQ.o Af (Ar Int) (by exact fun _=>⟨rfl,rfl⟩) (by first | rfl | (simp only [Aa,V.fz,fzL,V.up,upL,Ab,Ac,Ad,slr,List.cons_append,List.nil_append];done) | simp [Aa,V.fz,fzL,V.up,upL,Ab,Ac,Ad,slr])<|LoopQ.o [8,7,3,1,2] (Jd p0 from0 taken0) (Ph p0 from0 taken0) h (fun s o h=>Zi s o h) (by rfl) (fun _=>rfl) ?_
 rintro q3_7 h
 try dsimp only at h
 refine LoopQ.o [10,9,7,3,2] (Jh p0 taken0) (O8 p0 taken0) h (fun s o h=>Aam s o h) (by rfl) (fun _=>rfl) ?_
 rintro q13_9 h
 try dsimp only at h
 cases h;exact (by rfl)
end Go.Proofs.Ytpfikenknmlajaa.Ax
