/-
 sort.SliceStable at any length: the walks of Go's stable sort (swapRange_func, rotate_func, symMerge_func, stable_func).
-/
import Derived.Shelf.GgSortMore.Stable
import Derived.Sort.LotA
import Derived.Deep.DeepCutAuto
import Derived.Deep.CutRange
import Derived.Test.YtjcekpmojnnmbaaGreatSo1
namespace Go.Proofs.YtjcekpmojnnmbaaGreat.Ax
open Go Go.Proofs Go.Shelf Go.RowKit Go.Lib Go.Sort
variable {P:Program} {ρ:Ren} {α:Type} [Inhabited α]
def Alm (w w':World):Prop := ∃k os,w'=grow { w with drawn:=k } os
theorem Alm.refl (w:World):Alm w w:=⟨w.drawn,#[],by rw [grow_empty]⟩
theorem Alm.size {w w':World} (h:Alm w w'):w.heap.size≤w'.heap.size:=by
 obtain ⟨k,os,rfl⟩:=h
 rw [size_grow];exact Nat.le_add_right _ _
theorem Alm.cell {w w':World} (h:Alm w w') (a:Addr) (ha:a.block<w.heap.size):w'.cell? a=w.cell? a:=by
 obtain ⟨k,os,rfl⟩:=h
 exact cell?_grow { w with drawn:=k } os a ha
def SX (enc:α→Value) (w0:World) (blk off:Nat) (dk:Array α) (W:World):Prop := ∃k os,W=grow (putRow enc { w0 with drawn:=k } blk off dk) os
section
variable {enc:α→Value} {w0 W:World} {blk off:Nat} {dk:Array α}
theorem SX.start (h:Holds enc w0 blk off dk):SX enc w0 blk off dk w0:=⟨w0.drawn,#[],by rw [grow_empty];exact (putRow_self enc w0 blk off dk h).symm⟩
theorem SX.alloc (h:SX enc w0 blk off dk W) (o:Obj):SX enc w0 blk off dk (W.alloc o):=by
 obtain ⟨n,os,rfl⟩:=h
 exact ⟨n,os ++ #[o],by rw [alloc_eq_grow,grow_grow]⟩
theorem SX.le (h:SX enc w0 blk off dk W):w0.heap.size≤W.heap.size:=by
 obtain ⟨n,os,rfl⟩:=h
 rw [size_grow,size_putRow];exact Nat.le_add_right _ _
theorem SX.lt (h:SX enc w0 blk off dk W) (hblk:blk<w0.heap.size):blk<W.heap.size:=Nat.lt_of_lt_of_le hblk h.le
theorem SX.holds (h:SX enc w0 blk off dk W) (hblk:blk<w0.heap.size) {d0:Array α} (h0:Holds enc w0 blk off d0) (hs:dk.size=d0.size):Holds enc W blk off dk:=by
 obtain ⟨n,os,rfl⟩:=h
 exact holds_grow enc _ os blk off dk (by rw [size_putRow];exact hblk) (holds_putRow enc { w0 with drawn:=n } blk off d0 dk h0 hs)
theorem SX.swap (h:SX enc w0 blk off dk W) (hblk:blk<w0.heap.size) (i j:Nat) (hi:i<dk.size) (hj:j<dk.size) :
  SX enc w0 blk off (swp dk i j) ((W.setCell ⟨blk,off+i,none⟩ (enc dk[j]!)).setCell ⟨blk,off+j,none⟩ (enc dk[i]!)):=by
 obtain ⟨n,os,rfl⟩:=h
 refine ⟨n,os,?_⟩
 rw [←putRow_grow enc { w0 with drawn:=n } os blk off dk hblk,putRow_swp enc _ blk off dk i j hi hj,putRow_grow enc { w0 with drawn:=n } os blk off _ hblk]
theorem Aiz (w:World) (os:Array Obj) (k:Nat):{ (grow w os) with drawn:=k }=grow { w with drawn:=k } os:=rfl
theorem Adz (w:World) (d:Array α) (k:Nat):{ (putRow enc w blk off d) with drawn:=k }=putRow enc { w with drawn:=k } blk off d:=rfl
theorem SX.next {X w1:World} {d':Array α} (h:SX enc w0 blk off dk X) (hb:blk<w0.heap.size) (hs:d'.size=dk.size) (h1:SX enc X blk off d' w1):SX enc w0 blk off d' w1:=by
 obtain ⟨n,os,rfl⟩:=h
 obtain ⟨m,os',rfl⟩:=h1
 refine ⟨m,os++os',?_⟩
 rw [Aiz,Adz,putRow_grow _ _ _ _ _ _ (by rw [size_putRow];exact hb),putRow_putRow _ _ _ _ _ _ hs,grow_grow]
theorem SX.same {X w1:World} (h:SX enc w0 blk off dk X) (h1:Alm X w1):SX enc w0 blk off dk w1:=by
 obtain ⟨n,os,rfl⟩:=h
 obtain ⟨m,os',rfl⟩:=h1
 exact ⟨m,os++os',by rw [Aiz,Adz,grow_grow]⟩
end
def Afx (P:Program) (g:Nat) (lb:Array Value) (enc:α→Value) (lt:α→α→Bool) (blk off size:Nat) (w:World):Prop:=
 ∀(W:World) (dk:Array α),SX enc w blk off dk W→dk.size=size → ∀i j:Nat,i<size→j<size →
   Calls P g (#[.int .i64 i,.int .i64 j]++lb) W fun e w'=>e = .returned (.bool (lt dk[i]! dk[j]!))∧Alm W w'
theorem Afx.at {g:Nat} {lb:Array Value} {enc:α→Value} {lt:α→α→Bool} {blk off size:Nat} {w W:World} {D:Array α} (h:Afx P g lb enc lt blk off size w) (hb:blk<w.heap.size) (hw:SX enc w blk off D W) (hD:D.size=size):Afx P g lb enc lt blk off size W:=
 fun W' dk h' hs=>h W' dk (SX.next hw hb (hs.trans hD.symm) h') hs
def Bx (B:Nat) (x y:Value) (W:World):Prop:=W.cell? ⟨B,0,none⟩=some x∧W.cell? ⟨B,1,none⟩=some y∧B<W.heap.size
theorem Bx.set {B:Nat} {x y:Value} {W:World} (h:Bx B x y W) {b o:Nat} {v:Value} (hne:B≠b):Bx B x y (W.setCell ⟨b,o,none⟩ v):=by
 have key : ∀k:Nat,(⟨b,o,none⟩:Addr)≠⟨B,k,none⟩:=fun k e=>hne (congrArg Addr.block e).symm
 refine ⟨(World.cell?_setCell_other _ _ _ _ (key 0)).trans h.1,(World.cell?_setCell_other _ _ _ _ (key 1)).trans h.2.1,?_⟩
 rw [setCell_eq];unfold mapBlock;simpa using h.2.2
theorem Bx.on {B:Nat} {x y:Value} {W w1:World} (h:Bx B x y W) {enc:α→Value} {blk off:Nat} {d':Array α} (hne:B≠blk) (h1:SX enc W blk off d' w1):Bx B x y w1:=by
 obtain ⟨m,os',rfl⟩:=h1
 refine ⟨?_,?_,by rw [size_grow,size_putRow];exact Nat.lt_of_lt_of_le h.2.2 (Nat.le_add_right _ _)⟩
 ·rw [cell?_grow _ _ _ (by rw [size_putRow];exact h.2.2),cell?_putRow_other enc _ blk off _ _ (Or.inl hne)];exact h.1
 ·rw [cell?_grow _ _ _ (by rw [size_putRow];exact h.2.2),cell?_putRow_other enc _ blk off _ _ (Or.inl hne)];exact h.2.1
theorem Bx.same {B:Nat} {x y:Value} {W w1:World} (h:Bx B x y W) (h1:Alm W w1):Bx B x y w1:=
 ⟨(h1.cell _ h.2.2).trans h.1,(h1.cell _ h.2.2).trans h.2.1,Nat.lt_of_lt_of_le h.2.2 h1.size⟩
set_option maxHeartbeats 2000000 in
set_option maxRecDepth 100000 in
theorem A3r (L:LaysGt.n29 P ρ) (enc:α→Value) (lt:α→α→Bool) (g:Nat) (lb:Array Value) (sf:Nat) (sb:Array Value) (blk off a b:Nat) (d:Array α) (w:World)
  (eg : ∀args w,(callFunc g args).run P w = .ok (.enter g args) w) (hL:Afx P g lb enc lt blk off d.size w) (hswap:SwapSwaps P sf sb enc blk off d.size)
  (hH:Holds enc w blk off d) (hblk:blk<w.heap.size) (hab:a≤b) (hb:b≤d.size) (hsz:d.size<4611686018427387904) :
  Calls P (ρ.f 29) #[.agg #[.func (.func g) #[] lb,.func (.func sf) #[] sb],.int .i64 a,.int .i64 b] w fun e w'=>
   e = .returned (.tuple #[])∧SX enc w blk off (Sort.insertionSort lt d a b) w':=by
 have mixed:=L.mixed;have t0:=L.t0;have a0:=L.a0;have z0:=L.z0;have v0:=L.v0;have t3:=L.t3;have a3:=L.a3;have z3:=L.z3;have v3:=L.v3;have t4:=L.t4;have a4:=L.a4;have z4:=L.z4;have v4:=L.v4;have t26:=L.t26;have a26:=L.a26;have z26:=L.z26;have v26:=L.v26;have t38:=L.t38;have a38:=L.a38;have z38:=L.z38;have v38:=L.v38;have t42:=L.t42;have a42:=L.a42;have z42:=L.z42;have v42:=L.v42
 have u42:=run_underlying L.t42
 have hSX:=(SX.start hH).alloc (.cells #[.func (.func g) #[] lb,.func (.func sf) #[] sb] (ρ.t 42))
 go_enter L.f29,BodyGt.n29_ntmps ρ
 go_wp2
 go_loopw [6] (fun vi wr => ∃(i:Nat) (dk:Array α),vi = .int .i64 i∧a<i∧i≤b+1∧dk.size=d.size∧SX enc w blk off dk wr∧Bx w.heap.size (.func (.func g) #[] lb) (.func (.func sf) #[] sb) wr ∧
   insOuter lt a b i dk=insOuter lt a b (a+1) d) (fun vi _=>b+1-(intOf vi).toNat)
 case atStart=>exact ⟨a+1,d,by go_num,by omega,by omega,rfl,hSX,⟨by simp,by simp,by simp⟩,rfl⟩
 case round=>
  obtain ⟨i,dk,rfl,hai,hib,hsk,hsw,hbx,hO⟩:=hrel
  obtain ⟨c0,c1,c2⟩:=hbx
  have HO:Hid (insOuter lt a b i dk=insOuter lt a b (a+1) d):=hO
  clear hO
  by_cases hlt:i<b
  ·go_wp2
   go_loopw [7] (fun vj wr2 => ∃(j:Nat) (dj:Array α),vj = .int .i64 j∧a≤j∧j≤i∧dj.size=d.size∧SX enc w blk off dj wr2∧Bx w.heap.size (.func (.func g) #[] lb) (.func (.func sf) #[] sb) wr2 ∧
     insInner lt a j dj=insInner lt a i dk) (fun vj _=>(intOf vj).toNat)
   case atStart=>exact ⟨i,dk,rfl,by omega,Nat.le_refl _,hsk,hsw,⟨c0,c1,c2⟩,rfl⟩
   case round=>
    clear c0 c1 c2 hsw
    obtain ⟨j,dj,rfl,haj,hji,hsj,hsw,hbx,hI⟩:=hrel
    obtain ⟨c0,c1,c2⟩:=hbx
    have HI:Hid (insInner lt a j dj=insInner lt a i dk):=hI
    clear hI
    have out:(j≤a∨lt dj[j]! dj[j-1]! = false)→insOuter lt a b (i+1) dj=insOuter lt a b (a+1) d:=fun hs=>by
     rw [←HO.out,insOuter_go _ _ _ _ _ hlt,←HI.out,insInner_stop _ _ _ _ hs]
    have OUT:Hid _:=out
    clear out
    by_cases hja:a<j
    ·have hl:=hL _ _ hsw hsj j (j-1) (by omega) (by omega)
     rw [show (((j-1:Nat):Int))=(j:Int)-1 by omega] at hl
     cases hlv:lt dj[j]! dj[j-1]! with
     | true=>
       rw [hlv] at hl
       go_wp2_with (
        go_at_fn g
        refine hl.mono ?_
        rintro e w' ⟨rfl,hq⟩
        have hsw':=hsw.same hq
        obtain ⟨c0',c1',c2'⟩:Bx w.heap.size (.func (.func g) #[] lb) (.func (.func sf) #[] sb) w':=Bx.same ⟨c0,c1,c2⟩ hq
        have hs:=hswap w' dj (hsw'.holds hblk hH hsj) hsj j (j-1) (by omega) (by omega)
        have nxt:=hsw'.swap hblk j (j-1) (by omega) (by omega)
        have nbx:Bx w.heap.size (.func (.func g) #[] lb) (.func (.func sf) #[] sb) ((w'.setCell ⟨blk,off+j,none⟩ (enc dj[j-1]!)).setCell ⟨blk,off+(j-1),none⟩ (enc dj[j]!)):=Bx.set (Bx.set ⟨c0',c1',c2'⟩ (by omega)) (by omega)
        rw [show (((j-1:Nat):Int))=(j:Int)-1 by omega] at hs
        clear hsw' hq)
       go_roundw
       case rel=>exact ⟨j-1,swp dj j (j-1),by congr 1;omega,by omega,by omega,by rw [size_swp];exact hsj,nxt,nbx,by rw [←HI.out,insInner_go lt a j dj hja hlv]⟩
       case measure=>simp [intOf];omega
     | false=>
       rw [hlv] at hl
       go_wp2_with (go_at_fn g;refine hl.mono ?_;rintro e w' ⟨rfl,hq⟩)
       go_roundw
       case rel=>exact ⟨i+1,dj,by congr 1,by omega,by omega,hsj,hsw.same hq,Bx.same ⟨c0,c1,c2⟩ hq,OUT.out (Or.inr hlv)⟩
       case measure=>simp [intOf];omega
    ·go_wp2
     go_roundw
     case rel=>exact ⟨i+1,dj,by congr 1,by omega,by omega,hsj,hsw,⟨c0,c1,c2⟩,OUT.out (Or.inl (by omega))⟩
     case measure=>simp [intOf];omega
  ·go_wp2
   go_end0
   refine ⟨rfl,?_⟩
   unfold Sort.insertionSort
   rw [←HO.out,insOuter_stop _ _ _ _ _ hlt]
   exact hsw
set_option maxHeartbeats 2000000 in
set_option maxRecDepth 100000 in
theorem X0 (L:LaysGt.n49 P ρ) (enc:α→Value) (lf:Fn) (la lb:Array Value) (sf:Nat) (sb:Array Value) (blk off a b n:Nat) (d:Array α) (w:World)
  (hswap:SwapSwaps P sf sb enc blk off d.size) (hH:Holds enc w blk off d) (hblk:blk<w.heap.size) (hab:a+n≤b) (hb:b+n≤d.size) (hsz:d.size<4611686018427387904) :
  Calls P (ρ.f 49) #[.agg #[.func lf la lb,.func (.func sf) #[] sb],.int .i64 a,.int .i64 b,.int .i64 n] w fun e w'=>
   e = .returned (.tuple #[]) ∧ ∃d',d'.size=d.size∧By (swI a b n) d d'∧PermIn a (b+n) d d'∧SX enc w blk off d' w':=by
 have mixed:=L.mixed;have t0:=L.t0;have a0:=L.a0;have z0:=L.z0;have v0:=L.v0;have t3:=L.t3;have a3:=L.a3;have z3:=L.z3;have v3:=L.v3;have t4:=L.t4;have a4:=L.a4;have z4:=L.z4;have v4:=L.v4;have t26:=L.t26;have a26:=L.a26;have z26:=L.z26;have v26:=L.v26;have t38:=L.t38;have a38:=L.a38;have z38:=L.z38;have v38:=L.v38;have t42:=L.t42;have a42:=L.a42;have z42:=L.z42;have v42:=L.v42
 have u42:=run_underlying L.t42
 have hSX:=(SX.start hH).alloc (.cells #[.func lf la lb,.func (.func sf) #[] sb] (ρ.t 42))
 go_enter L.f49,BodyGt.n49_ntmps ρ
 go_wp2
 go_loopw [8] (fun vi wr => ∃(i:Nat) (dk:Array α),vi = .int .i64 i∧i≤n∧dk.size=d.size∧By (swI a b i) d dk∧PermIn a (b+n) d dk∧SX enc w blk off dk wr∧Bx w.heap.size (.func lf la lb) (.func (.func sf) #[] sb) wr) (fun vi _=>n-(intOf vi).toNat)
 case atStart=>exact ⟨0,d,rfl,Nat.zero_le _,rfl,By.self fun k=>Ayt,permIn_refl _ _ _,hSX,by simp,by simp,by simp⟩
 case round=>
  obtain ⟨i,dk,rfl,hin,hsk,hby,hperm,hsw,hbx⟩:=hrel
  obtain ⟨c0,c1,c2⟩:=hbx
  by_cases hlt:i<n
  ·have hHk:=hsw.holds hblk hH hsk
   have hs:=hswap wr dk hHk hsk (a+i) (b+i) (by omega) (by omega)
   have nxt:=hsw.swap hblk (a+i) (b+i) (by omega) (by omega)
   have nbx:Bx w.heap.size (.func lf la lb) (.func (.func sf) #[] sb) ((wr.setCell ⟨blk,off+(a+i),none⟩ (enc dk[b+i]!)).setCell ⟨blk,off+(b+i),none⟩ (enc dk[a+i]!)):=Bx.set (Bx.set ⟨c0,c1,c2⟩ (by omega)) (by omega)
   clear hHk
   rw [show ((a+i:Nat):Int)=(a:Int)+(i:Int) by omega,show ((b+i:Nat):Int)=(b:Int)+(i:Int) by omega] at hs
   go_wp2
   go_roundw
   case rel=>exact ⟨i+1,swp dk (a+i) (b+i),by congr 1<;>omega,by omega,by rw [size_swp];exact hsk,Azm hab hb hlt hsk hby,permIn_trans _ _ _ _ _ hperm (swp_permIn _ _ _ _ _ (by omega) (by omega) (by omega) (by omega) (by omega)),nxt,nbx⟩
   case measure=>simp [intOf];omega
  ·go_wp2
   go_end0
   obtain rfl:i=n:=by omega
   exact ⟨rfl,dk,hsk,hby,hperm,hsw⟩
set_option maxHeartbeats 2000000 in
set_option maxRecDepth 100000 in
theorem Ayg (L:LaysGt.n42 P ρ) (enc:α→Value) (lf:Fn) (la lb:Array Value) (sf:Nat) (sb:Array Value) (blk off a m b:Nat) (d:Array α) (w:World)
  (hswap:SwapSwaps P sf sb enc blk off d.size) (hH:Holds enc w blk off d) (hblk:blk<w.heap.size) (ham:a<m) (hmb:m<b) (hb:b≤d.size) (hsz:d.size<4611686018427387904) :
  Calls P (ρ.f 42) #[.agg #[.func lf la lb,.func (.func sf) #[] sb],.int .i64 a,.int .i64 m,.int .i64 b] w fun e w'=>
   e = .returned (.tuple #[]) ∧ ∃d',d'.size=d.size∧By (Ft a m b) d d'∧PermIn a b d d'∧SX enc w blk off d' w':=by
 have mixed:=L.mixed;have t0:=L.t0;have a0:=L.a0;have z0:=L.z0;have v0:=L.v0;have t3:=L.t3;have a3:=L.a3;have z3:=L.z3;have v3:=L.v3;have t4:=L.t4;have a4:=L.a4;have z4:=L.z4;have v4:=L.v4;have t26:=L.t26;have a26:=L.a26;have z26:=L.z26;have v26:=L.v26;have t38:=L.t38;have a38:=L.a38;have z38:=L.z38;have v38:=L.v38;have t42:=L.t42;have a42:=L.a42;have z42:=L.z42;have v42:=L.v42
 have u42:=run_underlying L.t42
 have e49 : ∀args w,(callFunc (ρ.f 49) args).run P w = .ok (.enter (ρ.f 49) args) w:=enters_of L.f49 (by kernel_rfl) rfl
 have hSX:=(SX.start hH).alloc (.cells #[.func lf la lb,.func (.func sf) #[] sb] (ρ.t 42))
 go_enter L.f42,BodyGt.n42_ntmps ρ
 go_wp2
 go_loopw [8,9] (fun vi vj wr => ∃(i j:Nat) (dk:Array α),vi = .int .i64 i∧vj = .int .i64 j∧0<i∧0<j∧i+a≤m∧m+j≤b∧dk.size=d.size∧(∀k,dk[Ft (m-i) m (m+j) k]! = d[Ft a m b k]!)∧PermIn a b d dk∧SX enc w blk off dk wr∧Bx w.heap.size (.func lf la lb) (.func (.func sf) #[] sb) wr) (fun vi vj _=>(intOf vi).toNat+(intOf vj).toNat)
 case atStart=>exact ⟨m-a,b-m,d,by go_num,by go_num,by omega,by omega,by omega,by omega,rfl,fun k=>by rw [show m-(m-a)=a by omega,show m+(b-m)=b by omega],permIn_refl _ _ _,hSX,by simp,by simp,by simp⟩
 case round=>
  obtain ⟨i,j,dk,rfl,rfl,hi0,hj0,him,hjb,hsk,hby,hperm,hsw,hbx⟩:=hrel
  obtain ⟨c0,c1,c2⟩:=hbx
  have hHk:=hsw.holds hblk hH hsk
  have hbk:=hsw.lt hblk
  have LR:LaysGt.n49 P ρ:={ L with }
  have cm:((m-i:Nat):Int)=(m:Int)-(i:Int):=by omega
  by_cases hij:i=j
  ·subst hij
   have hc:=X0 LR enc lf la lb sf sb blk off (m-i) m i dk wr (by rw [hsk];exact hswap) hHk hbk (by omega) (by omega) (by omega)
   rw [cm] at hc
   clear hHk
   go_wp2_with (go_at_fn (ρ.f 49);refine hc.mono ?_;rintro e w1 ⟨rfl,d1,q1,q2,q3,q4⟩)
   go_end0
   refine ⟨rfl,d1,q1.trans hsk,fun k=> ?_,permIn_trans _ _ _ _ _ hperm (permIn_mono _ _ _ _ _ _ (by omega) hjb (by omega) q3),SX.next hsw hblk q1 q4⟩
   rw [q2,Aya (by omega),hby]
  ·have hij':¬((i:Int)=(j:Int)):=by omega
   by_cases hlt:j<i
   ·have hc:=X0 LR enc lf la lb sf sb blk off (m-i) m j dk wr (by rw [hsk];exact hswap) hHk hbk (by omega) (by omega) (by omega)
    rw [cm] at hc
    clear hHk
    go_wp2_with (go_at_fn (ρ.f 49);refine hc.mono ?_;rintro e w1 ⟨rfl,d1,q1,q2,q3,q4⟩)
    go_roundw
    case rel=>
     refine ⟨i-j,j,d1,by congr 1;omega,rfl,by omega,hj0,by omega,hjb,q1.trans hsk,fun k=> ?_,permIn_trans _ _ _ _ _ hperm (permIn_mono _ _ _ _ _ _ (by omega) hjb (by omega) q3),SX.next hsw hblk q1 q4,Bx.on ⟨c0,c1,c2⟩ (by omega) q4⟩
     rw [q2,Ayy hlt (by omega) hj0,hby]
    case measure=>simp [intOf];omega
   ·have hc:=X0 LR enc lf la lb sf sb blk off (m-i) (m+j-i) i dk wr (by rw [hsk];exact hswap) hHk hbk (by omega) (by omega) (by omega)
    rw [cm,show ((m+j-i:Nat):Int)=(m:Int)+(j:Int)-(i:Int) by omega] at hc
    clear hHk
    go_wp2_with (go_at_fn (ρ.f 49);refine hc.mono ?_;rintro e w1 ⟨rfl,d1,q1,q2,q3,q4⟩)
    go_roundw
    case rel=>
     refine ⟨i,j-i,d1,rfl,by congr 1;omega,hi0,by omega,him,by omega,q1.trans hsk,fun k=> ?_,permIn_trans _ _ _ _ _ hperm (permIn_mono _ _ _ _ _ _ (by omega) (by omega) (by omega) q3),SX.next hsw hblk q1 q4,Bx.on ⟨c0,c1,c2⟩ (by omega) q4⟩
     rw [q2,Au4 (by omega) (by omega) hi0,hby]
    case measure=>simp [intOf];omega
set_option maxHeartbeats 4000000 in
set_option maxRecDepth 100000 in
theorem As1 (L:LaysGt.n30 P ρ) (enc:α→Value) (lt:α→α→Bool) (hO:SWO lt) (g:Nat) (lb:Array Value) (sf:Nat) (sb:Array Value) (eg : ∀args w,(callFunc g args).run P w = .ok (.enter g args) w) :
  ∀(N blk off a m b:Nat) (d:Array α) (w:World),b-a<N→Afx P g lb enc lt blk off d.size w→SwapSwaps P sf sb enc blk off d.size→Holds enc w blk off d→blk<w.heap.size→a<m→m<b→b≤d.size→d.size<4611686018427387904→SortedIn lt a m d→SortedIn lt m b d →
  Calls P (ρ.f 30) #[.agg #[.func (.func g) #[] lb,.func (.func sf) #[] sb],.int .i64 a,.int .i64 m,.int .i64 b] w fun e w'=>
   e = .returned (.tuple #[]) ∧ ∃d',PermIn a b d d'∧SortedIn lt a b d'∧SX enc w blk off d' w':=by
 have mixed:=L.mixed;have t0:=L.t0;have a0:=L.a0;have z0:=L.z0;have v0:=L.v0;have t3:=L.t3;have a3:=L.a3;have z3:=L.z3;have v3:=L.v3;have t4:=L.t4;have a4:=L.a4;have z4:=L.z4;have v4:=L.v4;have t26:=L.t26;have a26:=L.a26;have z26:=L.z26;have v26:=L.v26;have t38:=L.t38;have a38:=L.a38;have z38:=L.z38;have v38:=L.v38;have t42:=L.t42;have a42:=L.a42;have z42:=L.z42;have v42:=L.v42;have t47:=L.t47;have a47:=L.a47;have z47:=L.z47;have v47:=L.v47
 have u42:=run_underlying L.t42
 have e42 : ∀args w,(callFunc (ρ.f 42) args).run P w = .ok (.enter (ρ.f 42) args) w:=enters_of L.f42 (by kernel_rfl) rfl
 have e30 : ∀args w,(callFunc (ρ.f 30) args).run P w = .ok (.enter (ρ.f 30) args) w:=enters_of L.f30 (by kernel_rfl) rfl
 intro N
 induction N with
 | zero=>intro _ _ _ _ _ _ _ h;exact absurd h (Nat.not_lt_zero _)
 | succ N ih=>
   intro blk off a m b d w hN hL hS hH hblk ham hmb hb hsz hs1 hs2
   have hne:w.heap.size≠blk:=by omega
   have hSX:=(SX.start hH).alloc (.cells #[.func (.func g) #[] lb,.func (.func sf) #[] sb] (ρ.t 42))
   go_enter L.f30,BodyGt.n30_ntmps ρ
   by_cases h1:m=a+1
   ·have h1z:(m:Int)-(a:Int)=1:=by omega
    have hm1':Hid (m=a+1):=h1
    clear h1
    go_wp2
    go_loopw [8,9] (fun vi vj wr => ∃i j:Nat,vi = .int .i64 i∧vj = .int .i64 j∧m≤i∧i≤j∧j≤b∧(i=m∨lt d[i-1]! d[a]! = true)∧(j=b∨lt d[j]! d[a]! = false)∧SX enc w blk off d wr∧Bx w.heap.size (.func (.func g) #[] lb) (.func (.func sf) #[] sb) wr) (fun vi vj _=>(intOf vj).toNat-(intOf vi).toNat)
    case atStart=>exact ⟨m,b,rfl,rfl,Nat.le_refl _,by omega,Nat.le_refl _,.inl rfl,.inl rfl,hSX,by simp,by simp,by simp⟩
    case round=>
     obtain ⟨i,j,rfl,rfl,hmi,hij,hjb,hlo,hhi,hsw,hbx⟩:=hrel
     obtain ⟨c0,c1,c2⟩:=hbx
     by_cases hlt:i<j
     ·have hl:=hL _ _ hsw rfl ((i+j)/2) a (by omega) (by omega)
      rw [show (((i+j)/2:Nat):Int)=((i:Int)+(j:Int))/2 by omega] at hl
      cases hlv:lt d[(i+j)/2]! d[a]! with
      | true=>
        rw [hlv] at hl
        go_wp2_with (go_at_fn g;refine hl.mono ?_;rintro e w' ⟨rfl,hq⟩)
        go_roundw
        case rel=>exact ⟨(i+j)/2+1,j,by congr 1<;>omega,rfl,by omega,by omega,hjb,.inr (by rw [Nat.add_sub_cancel];exact hlv),hhi,hsw.same hq,Bx.same ⟨c0,c1,c2⟩ hq⟩
        case measure=>simp [intOf];omega
      | false=>
        rw [hlv] at hl
        go_wp2_with (go_at_fn g;refine hl.mono ?_;rintro e w' ⟨rfl,hq⟩)
        go_roundw
        case rel=>exact ⟨i,(i+j)/2,rfl,by congr 1<;>omega,by omega,by omega,by omega,hlo,.inr hlv,hsw.same hq,Bx.same ⟨c0,c1,c2⟩ hq⟩
        case measure=>simp [intOf];omega
     ·obtain rfl:i=j:=by omega
      have hm1:Hid (m=a+1):=hm1'
      go_wp2
      go_loopw [11] (fun vk wr => ∃(k:Nat) (dk:Array α),vk = .int .i64 k∧a≤k∧k+1≤i∧dk.size=d.size∧By (Ft a (a+1) (k+1)) d dk∧PermIn a b d dk∧SX enc w blk off dk wr∧Bx w.heap.size (.func (.func g) #[] lb) (.func (.func sf) #[] sb) wr) (fun vk _=>i-(intOf vk).toNat)
      case atStart=>exact ⟨a,d,rfl,Nat.le_refl _,by omega,rfl,By.self fun k=>by unfold Ft;(repeat' split)<;>omega,permIn_refl _ _ _,hsw,c0,c1,c2⟩
      case round=>
       clear c0 c1 c2
       obtain ⟨k,dk,rfl,hak,hki,hsk,hby,hperm,hswk,hbx⟩:=hrel
       obtain ⟨c0,c1,c2⟩:=hbx
       by_cases hk:k+1<i
       ·have hHk:=hswk.holds hblk hH hsk
        have hs:=hS wr dk hHk hsk k (k+1) (by omega) (by omega)
        have nxt:=hswk.swap hblk k (k+1) (by omega) (by omega)
        have nbx:Bx w.heap.size (.func (.func g) #[] lb) (.func (.func sf) #[] sb) ((wr.setCell ⟨blk,off+k,none⟩ (enc dk[k+1]!)).setCell ⟨blk,off+(k+1),none⟩ (enc dk[k]!)):=Bx.set (Bx.set ⟨c0,c1,c2⟩ (by omega)) (by omega)
        clear hHk
        rw [show ((k+1:Nat):Int)=(k:Int)+1 by omega] at hs
        go_wp2
        go_roundw
        case rel=>exact ⟨k+1,swp dk k (k+1),by congr 1<;>omega,by omega,by omega,by rw [size_swp];exact hsk,Az9 hak (by omega) hsk hby,permIn_trans _ _ _ _ _ hperm (swp_permIn _ _ _ _ _ (by omega) (by omega) (by omega) (by omega) (by omega)),nxt,nbx⟩
        case measure=>simp [intOf];omega
       ·obtain rfl:k+1=i:=by omega
        go_wp2
        (try simp only [Exit.inBlock,Exit.then]);refine bodyPost_ret (results_none rfl _ _ _) rfl ?_
        exact ⟨rfl,dk,hperm,Ay8 hO (by omega) hjb (by rw [←hm1.out];exact hs2) (by rw [←hm1.out];exact hlo) hhi hby,hswk⟩
   ·have h1z:¬((m:Int)-(a:Int)=1):=by omega
    by_cases h2:b=m+1
    ·have h2z:(b:Int)-(m:Int)=1:=by omega
     have hb1:Hid (b=m+1):=h2
     clear h2 h1
     have hbe:((m:Int)-(a:Int)==1)=false:=by simpa using h1z
     have hbf:((b:Int)-(m:Int)==1)=true:=by rw [h2z];rfl
     go_wp2
     (try rw [hbe])
     (try rw [hbf])
     clear h1z h2z hbe hbf
     go_loopw [12,13] (fun vi vj wr => ∃i j:Nat,vi = .int .i64 i∧vj = .int .i64 j∧a≤i∧i≤j∧j≤m∧(i=a∨lt d[m]! d[i-1]! = false)∧(j=m∨lt d[m]! d[j]! = true)∧SX enc w blk off d wr∧Bx w.heap.size (.func (.func g) #[] lb) (.func (.func sf) #[] sb) wr) (fun vi vj _=>(intOf vj).toNat-(intOf vi).toNat)
     case atStart=>exact ⟨a,m,rfl,rfl,Nat.le_refl _,by omega,Nat.le_refl _,.inl rfl,.inl rfl,hSX,by simp,by simp,by simp⟩
     case round=>
      obtain ⟨i,j,rfl,rfl,hai,hij,hjm,hlo,hhi,hsw,hbx⟩:=hrel
      obtain ⟨c0,c1,c2⟩:=hbx
      by_cases hlt:i<j
      ·have hl:=hL _ _ hsw rfl m ((i+j)/2) (by omega) (by omega)
       rw [show (((i+j)/2:Nat):Int)=((i:Int)+(j:Int))/2 by omega] at hl
       cases hlv:lt d[m]! d[(i+j)/2]! with
       | false=>
         rw [hlv] at hl
         go_wp2_with (go_at_fn g;refine hl.mono ?_;rintro e w' ⟨rfl,hq⟩)
         go_roundw
         case rel=>exact ⟨(i+j)/2+1,j,by congr 1<;>omega,rfl,by omega,by omega,hjm,.inr (by rw [Nat.add_sub_cancel];exact hlv),hhi,hsw.same hq,Bx.same ⟨c0,c1,c2⟩ hq⟩
         case measure=>simp [intOf];omega
       | true=>
         rw [hlv] at hl
         go_wp2_with (go_at_fn g;refine hl.mono ?_;rintro e w' ⟨rfl,hq⟩)
         go_roundw
         case rel=>exact ⟨i,(i+j)/2,rfl,by congr 1<;>omega,by omega,by omega,by omega,hlo,.inr hlv,hsw.same hq,Bx.same ⟨c0,c1,c2⟩ hq⟩
         case measure=>simp [intOf];omega
      ·obtain rfl:i=j:=by omega
       go_wp2
       go_loopw [15] (fun vk wr => ∃(k:Nat) (dk:Array α),vk = .int .i64 k∧i≤k∧k≤m∧dk.size=d.size∧By (Ft k m (m+1)) d dk∧PermIn a b d dk∧SX enc w blk off dk wr∧Bx w.heap.size (.func (.func g) #[] lb) (.func (.func sf) #[] sb) wr) (fun vk _=>(intOf vk).toNat)
       case atStart=>exact ⟨m,d,rfl,by omega,Nat.le_refl _,rfl,By.self fun k=>by unfold Ft;(repeat' split)<;>omega,permIn_refl _ _ _,hsw,c0,c1,c2⟩
       case round=>
        clear c0 c1 c2
        obtain ⟨k,dk,rfl,hik,hkm,hsk,hby,hperm,hswk,hbx⟩:=hrel
        obtain ⟨c0,c1,c2⟩:=hbx
        by_cases hk:i<k
        ·have hHk:=hswk.holds hblk hH hsk
         have hs:=hS wr dk hHk hsk k (k-1) (by omega) (by omega)
         have nxt:=hswk.swap hblk k (k-1) (by omega) (by omega)
         have nbx:Bx w.heap.size (.func (.func g) #[] lb) (.func (.func sf) #[] sb) ((wr.setCell ⟨blk,off+k,none⟩ (enc dk[k-1]!)).setCell ⟨blk,off+(k-1),none⟩ (enc dk[k]!)):=Bx.set (Bx.set ⟨c0,c1,c2⟩ (by omega)) (by omega)
         clear hHk
         rw [show ((k-1:Nat):Int)=(k:Int)-1 by omega] at hs
         go_wp2
         go_roundw
         case rel=>
          obtain ⟨t,rfl⟩ : ∃t,k=t+1:=⟨k-1,by omega⟩
          exact ⟨t,swp dk (t+1) t,by congr 1<;>omega,by omega,by omega,by rw [size_swp];exact hsk,Ayc (by omega) (by omega) hsk hby,permIn_trans _ _ _ _ _ hperm (swp_permIn _ _ _ _ _ (by omega) (by omega) (by omega) (by omega) (by omega)),nxt,nbx⟩
         case measure=>simp [intOf];omega
        ·obtain rfl:i=k:=by omega
         go_wp2
         (try simp only [Exit.inBlock,Exit.then]);refine bodyPost_ret (results_none rfl _ _ _) rfl ?_
         exact ⟨rfl,dk,hperm,by rw [hb1.out];exact Awp hO hai hkm hs1 hlo hhi hby,hswk⟩
    ·have h2z:¬((b:Int)-(m:Int)=1):=by omega
     go_upto_if 106 with fail
     obtain ⟨mid,emid⟩ : ∃mid:Nat,mid=(a+b)/2:=⟨_,rfl⟩
     have emz:((a:Int)+(b:Int))/2=(mid:Int):=by omega
     have hma:a<mid:=by omega
     have hmb2:mid<b:=by omega
     have hml:2*mid≤a+b:=by omega
     have hmh:a+b≤2*mid+1:=by omega
     have H12:Hid (m≠a+1∧b≠m+1):=⟨h1,h2⟩
     simp only [emz]
     clear h1z h2z h1 h2 emz emid
     go_cut [18,19] from 23 (fun s18 s19 wc => ∃s r:Nat,s18 = .int .i64 s∧s19 = .int .i64 r∧a≤s∧s≤r∧r≤m∧r≤mid∧mid+m≤b+s∧(s=a∨mid+m=b+s)∧(r=m∨r=mid)∧SX enc w blk off d wc∧Bx w.heap.size (.func (.func g) #[] lb) (.func (.func sf) #[] sb) wc)
     case first=>
      by_cases hm:mid<m
      ·have hmz:(m:Int)>(mid:Int):=by omega
       go_wp2
       go_meet
       case rel=>exact ⟨mid+m-b,mid,by congr 1;omega,rfl,by omega,by omega,by omega,by omega,by omega,by omega,by omega,hSX,by simp,by simp,by simp⟩
      ·have hmz:¬((m:Int)>(mid:Int)):=by omega
       go_wp2
       go_meet
       case rel=>exact ⟨a,m,rfl,rfl,by omega,by omega,by omega,by omega,by omega,by omega,by omega,hSX,by simp,by simp,by simp⟩
     case rest=>
      obtain ⟨s0,r0,rfl,rfl,has,hsr,hrm,hrmid,hmbs,hS0,hR0,hsw0,hbx0⟩:=hcut
      go_wp2
      go_loopw [18,19] (fun vi vj wr => ∃s r:Nat,vi = .int .i64 s∧vj = .int .i64 r∧s0≤s∧s≤r∧r≤r0∧(s=s0∨lt d[mid+m-s]! d[s-1]! = false)∧(r=r0∨lt d[mid+m-r-1]! d[r]! = true)∧SX enc w blk off d wr∧Bx w.heap.size (.func (.func g) #[] lb) (.func (.func sf) #[] sb) wr) (fun vi vj _=>(intOf vj).toNat-(intOf vi).toNat)
      case atStart=>exact ⟨s0,r0,rfl,rfl,Nat.le_refl _,hsr,Nat.le_refl _,.inl rfl,.inl rfl,hsw0,hbx0⟩
      case round=>
       clear hbx0 hsw0
       obtain ⟨s,r,rfl,rfl,hs0,hsr',hr0,hlo,hhi,hsw,hbx⟩:=hrel
       obtain ⟨c0,c1,c2⟩:=hbx
       by_cases hlt:s<r
       ·have hl:=hL _ _ hsw rfl (mid+m-1-(s+r)/2) ((s+r)/2) (by omega) (by omega)
        rw [show ((mid+m-1-(s+r)/2:Nat):Int)=(mid:Int)+(m:Int)-1-((s:Int)+(r:Int))/2 by omega,show (((s+r)/2:Nat):Int)=((s:Int)+(r:Int))/2 by omega] at hl
        cases hlv:lt d[mid+m-1-(s+r)/2]! d[(s+r)/2]! with
        | false=>
          rw [hlv] at hl
          go_wp2_with (go_at_fn g;refine hl.mono ?_;rintro e w' ⟨rfl,hq⟩)
          go_roundw
          case rel=>exact ⟨(s+r)/2+1,r,by congr 1<;>omega,rfl,by omega,by omega,hr0,.inr (by rw [show mid+m-((s+r)/2+1)=mid+m-1-(s+r)/2 by omega,Nat.add_sub_cancel];exact hlv),hhi,hsw.same hq,Bx.same ⟨c0,c1,c2⟩ hq⟩
          case measure=>simp [intOf];omega
        | true=>
          rw [hlv] at hl
          go_wp2_with (go_at_fn g;refine hl.mono ?_;rintro e w' ⟨rfl,hq⟩)
          go_roundw
          case rel=>exact ⟨s,(s+r)/2,rfl,by congr 1<;>omega,by omega,by omega,by omega,hlo,.inr (by rw [show mid+m-(s+r)/2-1=mid+m-1-(s+r)/2 by omega];exact hlv),hsw.same hq,Bx.same ⟨c0,c1,c2⟩ hq⟩
          case measure=>simp [intOf];omega
       ·obtain rfl:s=r:=by omega
        have hcutp:Cut lt a m b mid s d:=⟨by omega,by omega,by omega,by omega,by omega,
         by rcases hlo with h | h
            ·omega
            ·exact .inr (.inr h),
         by rcases hhi with h | h
            ·omega
            ·exact .inr (.inr h)⟩
        have hsm:s≤m:=hcutp.sm
        have hsmid:s≤mid:=hcutp.smid
        have hme:m+s≤mid+m:=by omega
        have heb:mid+m≤b+s:=by omega
        have has':a≤s:=hcutp.as
        have CP:Hid (Cut lt a m b mid s d):=hcutp
        clear hlo hhi hcutp hS0 hR0 hlt
        go_upto_region 40 with fail
        obtain ⟨en,een⟩ : ∃en:Nat,en=mid+m-s:=⟨_,rfl⟩
        have enz:(mid:Int)+(m:Int)-(s:Int)=(en:Int):=by omega
        simp only [enz]
        have hen:en+s=mid+m:=by omega
        clear enz een
        go_cut [145] from 23 (fun s145 wc=>s145 = .bool (decide (s<m)&&decide (m<en))∧SX enc w blk off d wc∧Bx w.heap.size (.func (.func g) #[] lb) (.func (.func sf) #[] sb) wc)
        case first=>
         by_cases q1:s<m
         ·have q1z:(s:Int)<(m:Int):=by omega
          by_cases q2:m<en
          ·have q2z:(m:Int)<(en:Int):=by omega
           go_wp2
           go_meet
           case rel=>exact ⟨by simp [q1,q2],hsw,c0,c1,c2⟩
          ·have q2z:¬((m:Int)<(en:Int)):=by omega
           go_wp2
           go_meet
           case rel=>exact ⟨by simp [q2],hsw,c0,c1,c2⟩
         ·have q1z:¬((s:Int)<(m:Int)):=by omega
          go_wp2
          go_meet
          case rel=>exact ⟨by simp [q1],hsw,c0,c1,c2⟩
        case rest=>
         obtain ⟨rfl,hsw1,hbx1⟩:=hcut
         clear c0 c1 c2 hsw
         go_upto_if 145 with fail
         go_cut [] from 23 (fun wc => ∃d1:Array α,d1.size=d.size∧By (Ft s m en) d d1∧PermIn a b d d1∧SX enc w blk off d1 wc∧Bx w.heap.size (.func (.func g) #[] lb) (.func (.func sf) #[] sb) wc)
         case first=>
          obtain ⟨c0,c1,c2⟩:=hbx1
          by_cases hq:s<m∧m<en
          ·rw [decide_eq_true hq.1,decide_eq_true hq.2]
           have hc:=Ayg (P:=P) (ρ:=ρ) { L with } enc (.func g) #[] lb sf sb blk off s m en d wc hS (hsw1.holds hblk hH rfl) (hsw1.lt hblk) hq.1 hq.2 (by omega) (by omega)
           go_wp2_with (go_at_fn (ρ.f 42);refine hc.mono ?_;rintro e w1 ⟨rfl,d1,r1,r2,r3,r4⟩)
           go_meet
           case rel=>exact ⟨d1,r1,r2,permIn_mono _ _ _ _ _ _ has' (by omega) (by omega) r3,SX.next hsw1 hblk r1 r4,Bx.on ⟨c0,c1,c2⟩ (by omega) r4⟩
          ·have hqb:(decide (s<m)&&decide (m<en))=false:=by
            rw [Bool.and_eq_false_iff]
            rcases Classical.not_and_iff_not_or_not.1 hq with h | h
            ·exact .inl (decide_eq_false h)
            ·exact .inr (decide_eq_false h)
           rw [hqb]
           go_wp2
           go_meet
           case rel=>exact ⟨d,rfl,By.self fun k=>by unfold Ft;(repeat' split)<;>omega,permIn_refl _ _ _,hsw1,c0,c1,c2⟩
         case rest=>
          clear hsw1 hbx1
          obtain ⟨d1,hz1,hby1,hp1,hsw1,hbx1⟩:=hcut
          obtain ⟨c0,c1,c2⟩:=hbx1
          have hen2:mid+m-s=en:=by omega
          obtain ⟨S1,S2,S3,S4,HX⟩:=Au0 hO CP.out hs1 hs2 (by rw [hen2];exact hby1)
          rw [hen2] at S3 S4
          clear hen2
          go_upto_region 42 with fail
          go_cut [158] from 23 (fun s158 wx=>s158 = .bool (decide (a<s)&&decide (s<mid))∧wx=wc)
          case first=>
           by_cases q1:a<s
           ·have q1z:(a:Int)<(s:Int):=by omega
            by_cases q2:s<mid
            ·have q2z:(s:Int)<(mid:Int):=by omega
             go_wp2
             go_meet
             case rel=>exact ⟨by simp [q1,q2],rfl⟩
            ·have q2z:¬((s:Int)<(mid:Int)):=by omega
             go_wp2
             go_meet
             case rel=>exact ⟨by simp [q2],rfl⟩
           ·have q1z:¬((a:Int)<(s:Int)):=by omega
            go_wp2
            go_meet
            case rel=>exact ⟨by simp [q1],rfl⟩
          case rest=>
           obtain ⟨rfl,rfl⟩:=hcut
           go_upto_if 158 with fail
           go_cut [] from 23 (fun wx => ∃d2:Array α,PermIn a mid d1 d2∧SortedIn lt a mid d2∧SX enc w blk off d2 wx∧Bx w.heap.size (.func (.func g) #[] lb) (.func (.func sf) #[] sb) wx)
           case first=>
            by_cases hq:a<s∧s<mid
            ·rw [decide_eq_true hq.1,decide_eq_true hq.2]
             have hc:=ih blk off a s mid d1 wc (by omega) (by rw [hz1];exact hL.at hblk hsw1 hz1) (by rw [hz1];exact hS) (hsw1.holds hblk hH hz1) (hsw1.lt hblk) hq.1 hq.2 (by omega) (by omega) S1 S2
             go_wp2_with (go_at_fn (ρ.f 30);refine hc.mono ?_;rintro e w1 ⟨rfl,d2,r1,r2,r3⟩)
             go_meet
             case rel=>exact ⟨d2,r1,r2,SX.next hsw1 hblk r1.1 r3,Bx.on ⟨c0,c1,c2⟩ (by omega) r3⟩
            ·have hqb:(decide (a<s)&&decide (s<mid))=false:=by
              rw [Bool.and_eq_false_iff]
              rcases Classical.not_and_iff_not_or_not.1 hq with h | h
              ·exact .inl (decide_eq_false h)
              ·exact .inr (decide_eq_false h)
             rw [hqb]
             go_wp2
             go_meet
             case rel=>
              refine ⟨d1,permIn_refl _ _ _,?_,hsw1,c0,c1,c2⟩
              by_cases h:a<s
              ·obtain rfl:s=mid:=by omega
               exact S1
              ·obtain rfl:s=a:=by omega
               exact S2
           case rest=>
            clear hsw1 c0 c1 c2
            obtain ⟨d2,hp2,hs2',hsw2,hbx2⟩:=hcut
            obtain ⟨c0,c1,c2⟩:=hbx2
            have hz2:d2.size=d.size:=hp2.1.trans hz1
            have T3:=SortedIn.same S3 hp2 (.inr (Nat.le_refl _))
            have T4:=SortedIn.same S4 hp2 (.inr (by omega))
            go_upto_region 44 with fail
            go_cut [171] from 23 (fun s171 wx=>s171 = .bool (decide (mid<en)&&decide (en<b))∧wx=wc)
            case first=>
             by_cases q1:mid<en
             ·have q1z:(mid:Int)<(en:Int):=by omega
              by_cases q2:en<b
              ·have q2z:(en:Int)<(b:Int):=by omega
               go_wp2
               go_meet
               case rel=>exact ⟨by simp [q1,q2],rfl⟩
              ·have q2z:¬((en:Int)<(b:Int)):=by omega
               go_wp2
               go_meet
               case rel=>exact ⟨by simp [q2],rfl⟩
             ·have q1z:¬((mid:Int)<(en:Int)):=by omega
              go_wp2
              go_meet
              case rel=>exact ⟨by simp [q1],rfl⟩
            case rest=>
             obtain ⟨rfl,rfl⟩:=hcut
             by_cases hq:mid<en∧en<b
             ·rw [decide_eq_true hq.1,decide_eq_true hq.2]
              have hc:=ih blk off mid en b d2 wc (by omega) (by rw [hz2];exact hL.at hblk hsw2 hz2) (by rw [hz2];exact hS) (hsw2.holds hblk hH hz2) (hsw2.lt hblk) hq.1 hq.2 (by omega) (by omega) T3 T4
              go_wp2_with (go_at_fn (ρ.f 30);refine hc.mono ?_;rintro e w1 ⟨rfl,d3,r1,r2,r3⟩)
              (try simp only [Exit.inBlock,Exit.then])
              go_end0
              have G:=A3n (by omega) (by omega) (by omega) HX hp2 hs2' r1 r2
              exact ⟨rfl,d3,permIn_trans _ _ _ _ _ hp1 G.1,G.2,SX.next hsw2 hblk r1.1 r3⟩
             ·have hqb:(decide (mid<en)&&decide (en<b))=false:=by
               rw [Bool.and_eq_false_iff]
               rcases Classical.not_and_iff_not_or_not.1 hq with h | h
               ·exact .inl (decide_eq_false h)
               ·exact .inr (decide_eq_false h)
              rw [hqb]
              go_wp2
              go_end0
              have T:SortedIn lt mid b d2:=by
               by_cases h:mid<en
               ·obtain rfl:en=b:=by omega
                exact T3
               ·obtain rfl:en=mid:=by omega
                exact T4
              have G:=A3n (by omega) (by omega) (by omega) HX hp2 hs2' (permIn_refl _ _ _) T
              exact ⟨rfl,d2,permIn_trans _ _ _ _ _ hp1 G.1,G.2,hsw2⟩
set_option maxHeartbeats 4000000 in
set_option maxRecDepth 100000 in
theorem Ayv (L:LaysGt.n15 P ρ) (enc:α→Value) (lt:α→α→Bool) (hO:SWO lt) (g:Nat) (lb:Array Value) (sf:Nat) (sb:Array Value) (eg : ∀args w,(callFunc g args).run P w = .ok (.enter g args) w)
  (blk off:Nat) (d:Array α) (w:World) (hL:Afx P g lb enc lt blk off d.size w) (hS:SwapSwaps P sf sb enc blk off d.size) (hH:Holds enc w blk off d) (hblk:blk<w.heap.size) (hsz:d.size<1125899906842624) :
  Calls P (ρ.f 15) #[.agg #[.func (.func g) #[] lb,.func (.func sf) #[] sb],.int .i64 d.size] w fun e w'=>
   e = .returned (.tuple #[]) ∧ ∃d',PermIn 0 d.size d d'∧SortedIn lt 0 d.size d'∧SX enc w blk off d' w':=by
 have mixed:=L.mixed;have t0:=L.t0;have a0:=L.a0;have z0:=L.z0;have v0:=L.v0;have t3:=L.t3;have a3:=L.a3;have z3:=L.z3;have v3:=L.v3;have t4:=L.t4;have a4:=L.a4;have z4:=L.z4;have v4:=L.v4;have t26:=L.t26;have a26:=L.a26;have z26:=L.z26;have v26:=L.v26;have t38:=L.t38;have a38:=L.a38;have z38:=L.z38;have v38:=L.v38;have t42:=L.t42;have a42:=L.a42;have z42:=L.z42;have v42:=L.v42;have t47:=L.t47;have a47:=L.a47;have z47:=L.z47;have v47:=L.v47
 have u42:=run_underlying L.t42
 have e29 : ∀args w,(callFunc (ρ.f 29) args).run P w = .ok (.enter (ρ.f 29) args) w:=enters_of L.f29 (by kernel_rfl) rfl
 have e30 : ∀args w,(callFunc (ρ.f 30) args).run P w = .ok (.enter (ρ.f 30) args) w:=enters_of L.f30 (by kernel_rfl) rfl
 have hins : ∀(dk:Array α) (wr:World) (a b:Nat),SX enc w blk off dk wr→dk.size=d.size→a≤b→b≤d.size →
   Calls P (ρ.f 29) #[.agg #[.func (.func g) #[] lb,.func (.func sf) #[] sb],.int .i64 a,.int .i64 b] wr fun e w'=>e = .returned (.tuple #[]) ∧ ∃d',PermIn a b dk d'∧SortedIn lt a b d'∧SX enc wr blk off d' w':=fun dk wr a b hw hk hab hb=>by
  have hc:=A3r (P:=P) (ρ:=ρ) { L with } enc lt g lb sf sb blk off a b dk wr eg (by rw [hk];exact hL.at hblk hw hk) (by rw [hk];exact hS) (hw.holds hblk hH hk) (hw.lt hblk) hab (by omega) (by omega)
  refine hc.mono ?_
  rintro e w' ⟨he,hw'⟩
  have:=insertionSort_holds hO dk a b hab (by omega)
  exact ⟨he,_,this.1,this.2,hw'⟩
 have hmrg : ∀(dk:Array α) (wr:World) (a m b:Nat),SX enc w blk off dk wr→dk.size=d.size→a<m→m<b→b≤d.size→SortedIn lt a m dk→SortedIn lt m b dk →
   Calls P (ρ.f 30) #[.agg #[.func (.func g) #[] lb,.func (.func sf) #[] sb],.int .i64 a,.int .i64 m,.int .i64 b] wr fun e w'=>e = .returned (.tuple #[]) ∧ ∃d',PermIn a b dk d'∧SortedIn lt a b d'∧SX enc wr blk off d' w':=fun dk wr a m b hw hk ham hmb hb h1 h2=>
  As1 (P:=P) (ρ:=ρ) { L with } enc lt hO g lb sf sb eg (b-a+1) blk off a m b dk wr (by omega) (by rw [hk];exact hL.at hblk hw hk) (by rw [hk];exact hS) (hw.holds hblk hH hk) (hw.lt hblk) ham hmb (by omega) (by omega) h1 h2
 have hSX:=(SX.start hH).alloc (.cells #[.func (.func g) #[] lb,.func (.func sf) #[] sb] (ρ.t 42))
 obtain ⟨n,en⟩ : ∃n,n=d.size:=⟨_,rfl⟩
 rw [←en] at hins hmrg hsz ⊢
 have hne:w.heap.size≠blk:=by omega
 have EN:Hid (n=d.size):=en
 have pd:PermIn 0 n d d:=permIn_refl _ _ _
 have hzd:d.size=n:=en.symm
 clear hL hS en
 go_enter L.f15,BodyGt.n15_ntmps ρ
 have HZ:Hid (d.size=n):=hzd
 clear hzd
 go_wp2
 go_loopw [5,6] (fun vi vj wr => ∃(t A:Nat) (dk:Array α),vi = .int .i64 A∧vj = .int .i64 ((A:Int)+20)∧Hid (A=20*t)∧A≤n∧dk.size=n∧Afi lt 20 t dk∧PermIn 0 n d dk∧SX enc w blk off dk wr∧Bx w.heap.size (.func (.func g) #[] lb) (.func (.func sf) #[] sb) wr) (fun vi _ _=>n-(intOf vi).toNat)
 case atStart=>exact ⟨0,0,d,rfl,rfl,rfl,by omega,HZ.out,Afi.none,permIn_refl _ _ _,hSX,by simp,by simp,by simp⟩
 case round=>
  obtain ⟨t,A,dk,rfl,rfl,HA,htn,hsk,hlow,hperm,hsw,hbx⟩:=hrel
  obtain ⟨c0,c1,c2⟩:=hbx
  have hAA:A=20*t:=HA.out
  by_cases hlt:A+20≤n
  ·have hltz:(A:Int)+20≤(n:Int):=by omega
   have hc:=hins dk wr A (A+20) hsw (by rw [hsk]) (by omega) hlt
   rw [show ((A+20:Nat):Int)=(A:Int)+20 by omega] at hc
   clear hAA
   go_wp2_with (go_at_fn (ρ.f 29);refine hc.mono ?_;rintro e w1 ⟨rfl,d1,q1,q2,q3⟩)
   go_roundw
   case rel=>
    have hAA:A=20*t:=HA.out
    exact ⟨t+1,A+20,d1,by congr 1,by congr 1,show A+20=20*(t+1) by omega,hlt,q1.1.trans hsk,hlow.more q1 (by omega) (by rw [←hAA];exact q2),permIn_trans _ _ _ _ _ hperm (permIn_mono _ _ _ _ _ _ (by omega) hlt (by omega) q1),SX.next hsw hblk q1.1 q3,Bx.on ⟨c0,c1,c2⟩ hne q3⟩
   case measure=>simp [intOf];omega
  ·have hltz:¬(A:Int)+20≤(n:Int):=by omega
   have hc:=hins dk wr A n hsw (by rw [hsk]) htn (Nat.le_refl _)
   have hlow':Afi lt 20 t dk∧20*t≤A∧n<20*t+20∧A=20*t:=⟨hlow,by omega,by omega,hAA⟩
   have HLow:Hid (Afi lt 20 t dk∧20*t≤A∧n<20*t+20∧A=20*t):=hlow'
   clear hAA hlow'
   go_wp2_with (go_at_fn (ρ.f 29);refine hc.mono ?_;rintro e w1 ⟨rfl,d1,q1,q2,q3⟩)
   have hruns:Ag5 lt 20 n d1 0:=HLow.out.1.last q1 HLow.out.2.1 (by rw [←HLow.out.2.2.2];exact q2) HLow.out.2.2.1
   have hp1:PermIn 0 n d d1:=permIn_trans _ _ _ _ _ hperm (permIn_mono _ _ _ _ _ _ (by omega) (Nat.le_refl _) (by omega) q1)
   have hsw1:=SX.next hsw hblk q1.1 q3
   have hbx1:Bx w.heap.size (.func (.func g) #[] lb) (.func (.func sf) #[] sb) w1:=Bx.on ⟨c0,c1,c2⟩ hne q3
   have hsz1:d1.size=n:=q1.1.trans hsk
   clear hlow hperm hsw c0 c1 c2 hlt hltz q1 q2 q3 hc hsk HLow HA
   go_loopw [4] (fun vb wr => ∃(bs:Nat) (dk:Array α),vb = .int .i64 bs∧20≤bs∧bs≤2*n+20∧dk.size=n∧Ag5 lt bs n dk 0∧PermIn 0 n d dk∧SX enc w blk off dk wr∧Bx w.heap.size (.func (.func g) #[] lb) (.func (.func sf) #[] sb) wr) (fun vb _=>2*n+20-(intOf vb).toNat)
   case atStart=>exact ⟨20,d1,rfl,Nat.le_refl _,by omega,hsz1,hruns,hp1,hsw1,hbx1⟩
   case round=>
    clear hbx1 hsw1 hp1 hruns hsz1
    obtain ⟨bs,dk,rfl,hb20,hbn,hsk,hruns,hperm,hsw,hbx⟩:=hrel
    obtain ⟨c0,c1,c2⟩:=hbx
    by_cases hlt:bs<n
    ·go_wp2
     go_loopw [5,6] (fun vi vj wr => ∃(t A:Nat) (dk:Array α),vi = .int .i64 A∧vj = .int .i64 ((A:Int)+2*(bs:Int))∧Hid (A=2*bs*t)∧A≤n∧dk.size=n∧Afi lt (2*bs) t dk∧Ag5 lt bs n dk A∧PermIn 0 n d dk∧SX enc w blk off dk wr∧Bx w.heap.size (.func (.func g) #[] lb) (.func (.func sf) #[] sb) wr) (fun vi _ _=>n-(intOf vi).toNat)
     case atStart=>exact ⟨0,0,dk,rfl,by simp,rfl,by omega,hsk,Afi.none,hruns,hperm,hsw,c0,c1,c2⟩
     case round=>
      clear hsw c0 c1 c2 hperm hruns hsk dk
      obtain ⟨t,A,dk,rfl,rfl,HA,htn,hsk,hlow,hruns,hperm,hsw,hbx⟩:=hrel
      obtain ⟨c0,c1,c2⟩:=hbx
      have R1:=hruns.head
      have R2:=hruns.tail.head
      by_cases hA2:A+2*bs≤n
      ·have hltz:(A:Int)+2*(bs:Int)≤(n:Int):=by omega
       rw [Nat.min_eq_left (by omega)] at R1 R2
       have hc:=hmrg dk wr A (A+bs) (A+2*bs) hsw (by rw [hsk]) (by omega) (by omega) hA2 R1 (by rwa [show A+2*bs=A+bs+bs by omega])
       rw [show ((A+2*bs:Nat):Int)=(A:Int)+2*(bs:Int) by omega,show ((A+bs:Nat):Int)=(A:Int)+(bs:Int) by omega] at hc
       go_wp2_with (go_at_fn (ρ.f 30);refine hc.mono ?_;rintro e w1 ⟨rfl,d1,q1,q2,q3⟩)
       go_roundw
       case rel=>
        have hAA:A=2*bs*t:=HA.out
        exact ⟨t+1,A+2*bs,d1,by congr 1,by congr 1,show A+2*bs=2*bs*(t+1) by rw [Nat.mul_succ];omega,hA2,q1.1.trans hsk,hlow.more q1 (by omega) (by rw [←hAA];exact q2),
         by rw [show A+2*bs=A+bs+bs by omega];exact hruns.tail.tail.same q1 (by omega),permIn_trans _ _ _ _ _ hperm (permIn_mono _ _ _ _ _ _ (by omega) hA2 (by omega) q1),SX.next hsw hblk q1.1 q3,Bx.on ⟨c0,c1,c2⟩ hne q3⟩
       case measure=>simp [intOf];omega
      ·have hltz:¬(A:Int)+2*(bs:Int)≤(n:Int):=by omega
       by_cases hm:A+bs<n
       ·have hmz:(A:Int)+(bs:Int)<(n:Int):=by omega
        rw [Nat.min_eq_left (by omega)] at R1
        rw [Nat.min_eq_right (by omega)] at R2
        have hc:=hmrg dk wr A (A+bs) n hsw (by rw [hsk]) (by omega) hm (Nat.le_refl _) R1 R2
        rw [show ((A+bs:Nat):Int)=(A:Int)+(bs:Int) by omega] at hc
        go_wp2_with (go_at_fn (ρ.f 30);refine hc.mono ?_;rintro e w1 ⟨rfl,d1,q1,q2,q3⟩)
        go_roundw
        case rel=>
         have hAA:A=2*bs*t:=HA.out
         exact ⟨2*bs,d1,by congr 1<;>omega,by omega,by omega,q1.1.trans hsk,hlow.last q1 (by omega) (by rw [←hAA];exact q2) (by omega),permIn_trans _ _ _ _ _ hperm (permIn_mono _ _ _ _ _ _ (by omega) (Nat.le_refl _) (by omega) q1),SX.next hsw hblk q1.1 q3,Bx.on ⟨c0,c1,c2⟩ hne q3⟩
        case measure=>simp [intOf];omega
       ·have hmz:¬(A:Int)+(bs:Int)<(n:Int):=by omega
        rw [Nat.min_eq_right (by omega)] at R1
        go_wp2
        go_roundw
        case rel=>
         have hAA:A=2*bs*t:=HA.out
         exact ⟨2*bs,dk,by congr 1<;>omega,by omega,by omega,hsk,hlow.last (permIn_refl dk A n) (by omega) (by rw [←hAA];exact R1) (by omega),hperm,hsw,c0,c1,c2⟩
        case measure=>simp [intOf];omega
    ·go_wp2
     go_end0
     have h0:=hruns.head
     rw [Nat.zero_add,Nat.min_eq_right (by omega)] at h0
     exact ⟨rfl,dk,hperm,h0,hsw⟩
theorem Akz (L:LaysGt.n8 P ρ) (t e:TypeId) (i ie:TypeInfo) (hi:P.info? t=some i) (hd:i.desc = .slice e) (hpk:P.packed t=false) (hie:P.info? e=some ie) (ke:Nat) (hke : ∀w,(Extern.Rtype.kind e).run P w = .ok ke w)
  (hs1:ie.size=1) (hagg : ∀w,(isAgg e).run P w = .ok false w) (enc:α→Value) (h1 : ∀x,(enc x).oneCell'=true) (lt:α→α→Bool) (hO:SWO lt) (g:Nat) (lb:Array Value)
  (eg : ∀args w,(callFunc g args).run P w = .ok (.enter g args) w) (blk off c:Nat) (d:Array α) (h2:2≤d.size) (hsz:d.size<1125899906842624)
  (f:Nat) (hf:P.funcs.findIdx? (·.name == "internal/reflectlite" ++ ".Swapper$" ++ toString (swapperK d.size ie ke))=some f)
  (gS:Bool) (hx : ∀args W,(callFunc f args).run P W=((Extern.ReflectliteSwapper.swap gS args).run P W).andThen fun v w'=> .ok (.value v) w')
  (w:World) (hless:Afx P g lb enc lt blk off d.size w) (hH:Holds enc w blk off d) (hblk:blk<w.heap.size) :
  Calls P (ρ.f 8) #[.iface t (.slice (some ⟨blk,off,none⟩) d.size c),.func (.func g) #[] lb] w fun e w'=>
   e = .returned (.tuple #[]) ∧ ∃d',PermIn 0 d.size d d'∧SortedIn lt 0 d.size d'∧SX enc w blk off d' w':=by
 refine Any.sort_SliceStable_of_stable L t e i ie hi hd hpk hie ke hke _ d.size c (by omega) f hf (.func g) #[] lb w _ ?_
 have hB:sliceBound P e ie ke (some ⟨blk,off,none⟩) d.size c = #[.slice (some ⟨blk,off,none⟩) d.size c,typeHandle P e]:=by
  unfold sliceBound;rw [if_neg (swapperK_gt _ _ _ h2)]
 have hW:stableWorld P ρ t (some ⟨blk,off,none⟩) d.size c w=grow w #[.cells #[.slice (some ⟨blk,off,none⟩) d.size c] t,.cells #[.pointer (some ⟨P.globals.size,t,none⟩),.pointer (some ⟨w.heap.size,0,none⟩),.int .u64 151] (ρ.t 36)]:=by
  unfold stableWorld;rw [alloc_eq_grow,alloc_eq_grow,grow_grow];rfl
 generalize (#[.cells #[.slice (some ⟨blk,off,none⟩) d.size c] t,.cells #[.pointer (some ⟨P.globals.size,t,none⟩),.pointer (some ⟨w.heap.size,0,none⟩),.int .u64 151] (ρ.t 36)]:Array Obj)=os0 at hW
 rw [hB,hW]
 refine (Ayv (P:=P) (ρ:=ρ) { L with } enc lt hO g lb f _ eg blk off d (grow w os0) (hless.at hblk ⟨w.drawn,os0,by rw [show ({ w with drawn:=w.drawn }:World)=w from rfl,putRow_self enc w blk off d hH]⟩ rfl) (swapSwaps_of_literal gS f hx e ie hie hs1 hagg enc h1 blk off d.size c) (holds_grow enc w _ blk off d hblk hH) (by rw [size_grow];omega) hsz).mono ?_
 rintro e w' ⟨rfl,d',p1,p2,h⟩
 exact ⟨rfl,d',p1,p2,SX.next (⟨w.drawn,os0,by rw [show ({ w with drawn:=w.drawn }:World)=w from rfl,putRow_self enc w blk off d hH]⟩:SX enc w blk off d (grow w os0)) hblk p1.1 h⟩
end Go.Proofs.YtjcekpmojnnmbaaGreat.Ax
