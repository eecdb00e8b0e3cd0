/-
 Writing to a strings.Builder leaves all other blocks as they were; its contracts on trees, over any program.
-/
import Derived.Shelf.Strings.BuilderK
import Derived.Shelf.Strconv.Itoa4
import Derived.Test.YtbnoclklhcbidaaDoorAx4
namespace Go.Proofs.YtbnoclklhcbidaaDoor.Ax
open Go Go.Shelf Go.RowKit Go.Proofs
section
variable {P:Program} {ρ:Ren}
structure BRest (b:Nat) (r:Option Nat) (w w':World):Prop where
 os:w'.os=w.os
 tape:w'.tape=w.tape
 output:w'.output=w.output
 size:w.heap.size≤w'.heap.size
 same : ∀k,k<w.heap.size→k≠b→some k≠r→w'.heap[k]? = w.heap[k]?
theorem BRest.refl (b:Nat) (r:Option Nat) (w:World):BRest b r w w:=⟨rfl,rfl,rfl,Nat.le_refl _,fun _ _ _ _=>rfl⟩
theorem BRest.set {b:Nat} {r:Option Nat} {w w':World} (h:BRest b r w w') (i:Nat) (v:Value):BRest b r w (w'.setCell ⟨b,i,none⟩ v):=
 ⟨h.os,h.tape,h.output,by simpa using h.size,fun k hk hb hr=>by rw [Below.heap_setCell w' ⟨b,i,none⟩ v k hb];exact h.same k hk hb hr⟩
theorem BRest.grown {b:Nat} {r:Option Nat} {w w1 w2:World} (h:BRest b r w w1) (hg:w1.grownBy w2 r):BRest b r w w2:=
 ⟨hg.os.trans h.os,hg.tape.trans h.tape,hg.output.trans h.output,Nat.le_trans h.size hg.size,fun k hk hb hr=>by rw [hg.block k (Nat.lt_of_lt_of_le hk h.size) hr];exact h.same k hk hb hr⟩
theorem BRest.drew {b:Nat} {r:Option Nat} {w w1:World} (h:BRest b r w w1):BRest b r w w1.drew:=⟨h.os,h.tape,h.output,h.size,h.same⟩
theorem BRest.freeze {b g:Nat} {w w1:World} (h:BRest b (some g) w w1) (o n:Nat):BRest b (some g) w (w1.freeze ⟨g,o,none⟩ n):=by
 unfold World.freeze
 split
 ·exact h
 ·refine ⟨h.os,h.tape,h.output,by simpa using h.size,fun k hk hb hr=> ?_⟩
  rw [←h.same k hk hb hr]
  simp only [Array.getElem?_modify]
  rw [if_neg (fun e=>hr (by rw [e]))]
open Go.Lib in
theorem Art {w:World} (base:Nat) (t u ty e:TypeId) (i:TypeInfo) (ht:P.underlying t=some (.slice e)) (hu:P.underlying u=some .string) (hi:P.info? e=some i) (hz:i.zero=some (.int .u8 0))
  (hsize:i.size=1) (hby:i.bytes=1) (v:Value) (n:Nat) (xs:List Value) (hown:w.ownsRowF base e 1 v n xs) (s:ByteArray) (h63:n+s.size≤maxLen) (hbytes:n+s.size≤140737488355328) (hbase:base≤w.heap.size) :
  ∃v' w',(Builtin.append_ #[t,u] ty #[v,.string s]).run P w = .ok v' w'∧w'.ownsRowF base e 1 v' (n+s.size) (xs++strCells s)∧w.grownBy w' v.ownBlock ∧ ∀k,v'.ownBlock=some k→v.ownBlock=some k∨w.heap.size≤k:=by
 have lift : ∀ {w2:World} {v2 m ys},w2.ownsRowF w.heap.size e 1 v2 m ys→w2.ownsRowF base e 1 v2 m ys ∧ ∀k,v2.ownBlock=some k→w.heap.size≤k:=by
  intro w2 v2 m ys h
  rcases h.2 with ⟨rfl,h0⟩ | ⟨g,cap,cur,fz,rfl,hb,h3⟩
  ·exact ⟨⟨h.1,.inl ⟨rfl,h0⟩⟩,fun k hk=>by simp [Value.ownBlock] at hk⟩
  ·exact ⟨⟨h.1,.inr ⟨g,cap,cur,fz,rfl,Nat.le_trans hbase hb,h3⟩⟩,fun k hk=>by simp [Value.ownBlock] at hk;omega⟩
 rcases hown.2 with ⟨rfl,rfl⟩ | ⟨g,cap,cur,fz,rfl,hbg,hg,hfz,hnc,hcm,hcs,htake⟩
 ·obtain ⟨v',w',h1,h2,h3,_⟩:=run_append_own_stringF (P:=P) w w.heap.size t u ty e i ht hu hi hz hsize hby (.slice none 0 0) 0 xs ⟨hown.1,.inl ⟨rfl,rfl⟩⟩ s h63 hbytes (Nat.le_refl _)
  exact ⟨v',w',h1,(lift h2).1,h3,fun k hk=> .inr ((lift h2).2 k hk)⟩
 ·obtain ⟨v',w',h1,h2,h3,_⟩:=run_append_own_stringF (P:=P) w base t u ty e i ht hu hi hz hsize hby _ n xs hown s h63 hbytes hbase
  refine ⟨v',w',h1,h2,h3,fun k hk=> ?_⟩
  by_cases hroom:n+s.size≤cap
  ·have hr:=run_append_room_stringF (P:=P) w t u ty e i ht hu hi hsize g n cap cur fz hg (by simpa using hfz) s hroom (by omega)
   rw [hr] at h1
   cases h1
   exact .inl hk
  ·have holds : ∀j u,xs[j]? = some u→w.cell? ((⟨g,0,none⟩:Addr).add j)=some u:=hown.cells (g:=g) rfl
   have hxl:xs.length=n:=by simpa using hown.1
   have hr:=run_append_grow_string (P:=P) w t u ty e i (.int .u8 0) ht hu hi hz ⟨g,0,none⟩ n cap xs (by rw [hsize];simpa using hxl) holds s (by omega) (by omega) (by rw [hby];exact growslice_fits (by omega) (by omega))
   rw [hr] at h1
   cases h1
   simp [Value.ownBlock] at hk
   exact .inr (by omega)
theorem Abv {ops:Array Oper} {rest:List Oper} {o:Oper} {a:Act} {w:World} {Q:Exit→Act→World→Prop} (hgd:o.guard=none) (sl x:Operand) (t u:TypeId)
  (ho:o.op = .call { callee:= .builtin .append,args := #[sl,x],argTypes := #[t,u] })
  (base:Nat) (e:TypeId) (i:TypeInfo) (ht:P.underlying t=some (.slice e)) (hu:P.underlying u=some .string) (hi:P.info? e=some i) (hz:i.zero=some (.int .u8 0))
  (hsize:i.size=1) (hby:i.bytes=1) (v:Value) (n:Nat) (xs:List Value) (hs:a.eval sl=v) (hown:w.ownsRowF base e 1 v n xs) (s:ByteArray) (hx:a.eval x = .string s)
  (h63:n+s.size≤maxLen) (hbytes:n+s.size≤140737488355328) (hbase:base≤w.heap.size)
  (h : ∀v' w',w'.ownsRowF base e 1 v' (n+s.size) (xs++Lib.strCells s)→w.grownBy w' v.ownBlock→(∀k,v'.ownBlock=some k→v.ownBlock=some k∨w.heap.size≤k)→wpList P ops Q rest (a.put o.dst v') w'):wpList P ops Q (o::rest) a w:=by
 refine wpList_plain hgd fun K hK=> ?_
 obtain ⟨v',w',hr,h2,h3,h4⟩:=Art (P:=P) (w:=w) base t u o.type e i ht hu hi hz hsize hby v n xs hown s h63 hbytes hbase
 unfold Oper.wp execOp
 simp only [ho,resolve,invoke,builtin,Sem.run_bind,Sem.run_pure,Result.andThen_ok,List.map_toArray,List.map_cons,List.map_nil,hs,hx,hr]
 exact hK _ _ (h v' w' h2 h3 h4)
theorem Ama (L:Lays.n240 P ρ) (X:Builder.X72 P ρ) (B b:Nat) (bs:List Value) (w:World) {p0 v:Value} (hv:w.heap[b]? = some (.cells #[p0,v] (ρ.t 72) (0,0))) (h:Lib.IsBuilderF (ρ.t 72) (ρ.t 5) B b bs w) :
  Calls P (ρ.f 240) #[.pointer (some ⟨b,0,none⟩)] w fun e w'=>e = .returned (.tuple #[])∧Lib.BuilderAtF (ρ.t 72) (ρ.t 5) B b (.pointer (some ⟨b,0,none⟩)) bs w'∧w'.heap[b]? = some (.cells #[.pointer (some ⟨b,0,none⟩),v] (ρ.t 72) (0,0))∧BRest b v.ownBlock w w':=by
 rcases h with h | h
 ·refine (Any.Builder_copyCheck_fresh L X b w h.cell0 h.shape h.frozen0).mono ?_
  rintro e w' ⟨rfl,rfl⟩
  exact ⟨rfl,h.used _,by rw [heap_setCell_same w b 0 _ _ _ hv];rfl,(BRest.refl _ _ w).set 0 _⟩
 ·refine (Any.Builder_copyCheck_used L X b w h.cell0).mono ?_
  rintro e w' ⟨rfl,rfl⟩
  obtain ⟨_,v',hv',_⟩:=id h
  rw [hv] at hv'
  simp only [Option.some.injEq,Obj.cells.injEq,Array.mk.injEq,List.cons.injEq] at hv'
  obtain ⟨⟨rfl,rfl,_⟩,_⟩:=hv'
  exact ⟨rfl,h,hv,BRest.refl _ _ _⟩
set_option maxHeartbeats 2000000 in
set_option maxRecDepth 100000 in
theorem Af0 (L:Lays.n166 P ρ) (X:Builder.Extra P ρ) (B b:Nat) (bs:List Value) (s:ByteArray) (w:World) {p0 v:Value} (hv:w.heap[b]? = some (.cells #[p0,v] (ρ.t 72) (0,0))) (h:Lib.IsBuilderF (ρ.t 72) (ρ.t 5) B b bs w) (hlen:bs.length+s.size≤140737488355328) (hBw:B≤w.heap.size) :
  Calls P (ρ.f 166) #[.pointer (some ⟨b,0,none⟩),.string s] w fun e w'=>e = .returned (.tuple #[.int .i64 s.size,.nilIface])∧Lib.BuilderAtF (ρ.t 72) (ρ.t 5) B b (.pointer (some ⟨b,0,none⟩)) (bs++Lib.strCells s) w'∧BRest b v.ownBlock w w' ∧ ∀p v2 T fr,w'.heap[b]? = some (.cells #[p,v2] T fr) → ∀k,v2.ownBlock=some k→v.ownBlock=some k∨w.heap.size≤k:=by
 obtain ⟨i0,hi,hz0,hz1,hz2⟩:=info_parts X.infoByte
 have mixed:=L.mixed
 have t72:=L.t72;have a72:=L.a72;have z72:=L.z72;have v72:=L.v72;have u72:=run_underlying L.t72
 have t70:=L.t70;have a70:=L.a70;have z70:=L.z70;have v70:=L.v70;have u70:=run_underlying L.t70
 have t37:=L.t37;have a37:=L.a37;have z37:=L.z37;have v37:=L.v37;have u37:=run_underlying L.t37
 have t3:=L.t3;have a3:=L.a3;have z3:=L.z3;have v3:=L.v3;have u3:=run_underlying L.t3
 have t9:=L.t9;have a9:=L.a9;have z9:=L.z9;have v9:=L.v9;have u9:=run_underlying L.t9
 have t4:=L.t4;have a4:=L.a4;have z4:=L.z4;have v4:=L.v4;have u4:=run_underlying L.t4
 have t164:=L.t164;have a164:=L.a164;have z164:=L.z164;have v164:=L.v164;have u164:=run_underlying L.t164
 have t5:=X.t5;have a5:=X.a5;have z5:=X.z5;have v5:=X.v5;have u5:=run_underlying X.t5
 have e240 : ∀args w,(callFunc (ρ.f 240) args).run P w = .ok (.enter (ρ.f 240) args) w:=enters_of L.f240 (by kernel_rfl) rfl
 go_enter L.f166,Body.n166_ntmps ρ
 go_wp2_with (go_at_fn (ρ.f 240);refine (Ama { L with } X.toX72 B b bs _ hv h).mono ?_)
 rintro e w1 ⟨rfl,h1,hbk,hr1⟩
 obtain ⟨hB,v',hbk',hown,hne⟩:=h1
 have ev:v'=v:=by
  rw [hbk] at hbk'
  simp only [Option.some.injEq,Obj.cells.injEq,Array.mk.injEq,List.cons.injEq] at hbk'
  exact hbk'.1.2.1.symm
 subst ev
 have c0:w1.cell? ⟨b,0,none⟩=some (.pointer (some ⟨b,0,none⟩)):=by rw [Lib.cell_of_heap hbk];rfl
 have c1:w1.cell? ⟨b,1,none⟩=some v':=by rw [Lib.cell_of_heap hbk];rfl
 go_wp2_with (at_builtin;refine Abv rfl _ _ (ρ.t 37) (ρ.t 9) rfl B (ρ.t 5) i0 L.t37 L.t9 hi hz0 hz1 hz2 _ _ _ rfl hown s rfl ?c3 ?c4 ?c5 ?_)
 case c3=>unfold maxLen;omega
 case c4=>omega
 case c5=>have:=hr1.size;omega
 intro v2 w2 hown' hgrow hold
 have hlt:b<w1.heap.size:=by
  rcases Nat.lt_or_ge b w1.heap.size with h' | h'
  ·exact h'
  ·simp [Array.getElem?_eq_none h'] at hbk
 have hb2:w2.heap[b]? = some (.cells #[.pointer (some ⟨b,0,none⟩),v'] (ρ.t 72) (0,0)):=by
  rw [hgrow.block b hlt (fun e=>hne e.symm)]
  exact hbk
 have d0:w2.cell? ⟨b,0,none⟩=some (.pointer (some ⟨b,0,none⟩)):=by rw [Lib.cell_of_heap hb2];rfl
 have d1:w2.cell? ⟨b,1,none⟩=some v':=by rw [Lib.cell_of_heap hb2];rfl
 have f1:w2.frozen? ⟨b,1,none⟩=false:=Lib.frozen_of_heap hb2 1
 obtain ⟨ao,n',cap,rfl⟩ : ∃ao n' cap,v2 = .slice ao n' cap:=by
  rcases hown'.2 with ⟨hv,_⟩ | ⟨g,cap,cur,fz,hv,_⟩
  ·exact ⟨_,_,_,hv⟩
  ·exact ⟨_,_,_,hv⟩
 go_wp2
 go_ret2
 exact ⟨rfl,Lib.BuilderAtF.put (T:=(ρ.t 72)) (e:=(ρ.t 5)) hB hb2 (bs':=bs++Lib.strCells s) (by simpa [Lib.strCells_length] using hown') X.neB5,(hr1.grown hgrow).set 1 _,fun p2 v3 T3 fr3 h3 k hk=>by
  rw [heap_setCell_same w2 b 1 _ _ _ hb2] at h3
  simp only [Option.some.injEq,Obj.cells.injEq] at h3
  obtain ⟨h3, -⟩:=h3
  have h4:=congrArg (·[1]?) h3
  simp at h4
  subst h4
  exact (hold k hk).imp id fun h=>Nat.le_trans hr1.size h⟩
set_option maxHeartbeats 1000000 in
set_option maxRecDepth 100000 in
theorem Arb (L:Lays.n169 P ρ) (X:Builder.Extra P ρ) (B b:Nat) (l:List UInt8) (w:World) {p0 v0:Value} (hv:w.heap[b]? = some (.cells #[p0,v0] (ρ.t 72) (0,0))) (h:Lib.IsBuilderF (ρ.t 72) (ρ.t 5) B b (Lib.byteCells l) w) (h0:l≠[]) :
  Calls P (ρ.f 169) #[.pointer (some ⟨b,0,none⟩)] w fun e w'=>e = .returned (.string ⟨l.toArray⟩)∧Lib.IsBuilderF (ρ.t 72) (ρ.t 5) B b (Lib.byteCells l) w'∧w'.heap[b]? = w.heap[b]? ∧ BRest b v0.ownBlock w w':=by
 obtain ⟨p,hp,hAt⟩ : ∃p,(p = .pointer none∨p = .pointer (some ⟨b,0,none⟩))∧Lib.BuilderAtF (ρ.t 72) (ρ.t 5) B b p (Lib.byteCells l) w:=by
  rcases h with h | h
  ·exact ⟨_,.inl rfl,h⟩
  ·exact ⟨_,.inr rfl,h⟩
 obtain ⟨hB,v,hbk,hown,hne⟩:=hAt
 have ev:v=v0:=by
  rw [hv] at hbk
  simp only [Option.some.injEq,Obj.cells.injEq,Array.mk.injEq,List.cons.injEq] at hbk
  exact hbk.1.2.1.symm
 subst ev
 have hl0:l.length≠0:=by simpa using h0
 rw [Lib.byteCells_length] at hown
 obtain ⟨g,cap,cur,fz,rfl,hbg,hg,hfz,hnc,hcm,hcs,htake⟩ : ∃g cap cur fz,v = .slice (some ⟨g,0,none⟩) l.length cap∧B≤g∧w.heap[g]? = some (.cells cur (ρ.t 5) fz)∧fz.2≤l.length*1∧l.length≤cap∧cap≤maxLen∧cur.size=cap*1∧cur.toList.take (l.length*1)=Lib.byteCells l:=by
  rcases hown.2 with ⟨_,hz⟩ | ⟨g,cap,cur,fz,hv,r⟩
  ·exact absurd hz hl0
  ·exact ⟨g,cap,cur,fz,hv,r⟩
 have c1:w.drew.cell? ⟨b,1,none⟩=some (.slice (some ⟨g,0,none⟩) l.length cap):=by
  have:w.drew.heap[b]? = some (.cells #[p,.slice (some ⟨g,0,none⟩) l.length cap] (ρ.t 72) (0,0)):=hbk
  rw [Lib.cell_of_heap this];rfl
 have hSD:(Builtin.unsafeSliceData_ #[(ρ.t 37)] (ρ.t 127) #[.slice (some ⟨g,0,none⟩) l.length cap]).run P w.drew = .ok (.pointer (some ⟨g,0,none⟩)) w.drew:=
  Lib.run_unsafeSliceData_row _ _ _ _ _ _ (by omega)
 have hUS:(Builtin.unsafeString_ #[(ρ.t 127),(ρ.t 3)] (ρ.t 9) #[.pointer (some ⟨g,0,none⟩),.int .i64 l.length]).run P w.drew = .ok (.string ⟨l.toArray⟩) (w.drew.freeze ⟨g,0,none⟩ l.length):=by
  refine Lib.run_unsafeString_row w.drew (ρ.t 127) (ρ.t 3) (ρ.t 9) (ρ.t 5) L.t127 X.cellsByte g cur.size (by have hg':w.drew.heap[g]? = some (.cells cur (ρ.t 5) fz):=hg;simp [World.shape?,hg']) l h0 (by omega) (by unfold maxLen at hcm;omega) ?_
  intro j x hx
  have:=hown.cells (g:=g) rfl j (.int .u8 x.toNat) (by simp [Lib.byteCells,hx])
  exact this
 have hkeep:Lib.IsBuilderF (ρ.t 72) (ρ.t 5) B b (Lib.byteCells l) (w.drew.freeze ⟨g,0,none⟩ l.length):=by
  have hA:Lib.BuilderAtF (ρ.t 72) (ρ.t 5) B b p (Lib.byteCells l) w.drew:=⟨hB,_,hbk,by rw [Lib.byteCells_length];exact hown,hne⟩
  have hF:=hA.froze (g:=g) (cap:=cap) (by rw [Lib.byteCells_length];exact c1)
  rw [Lib.byteCells_length] at hF
  rcases hp with rfl | rfl
  ·exact .inl hF
  ·exact .inr hF
 have hrest:BRest b (some g) w (w.drew.freeze ⟨g,0,none⟩ l.length):=((BRest.refl b (some g) w).drew).freeze 0 l.length
 have hgb:g≠b:=fun e=>hne (by rw [e];rfl)
 have hbb:(w.drew.freeze ⟨g,0,none⟩ l.length).heap[b]? = w.heap[b]? := by
  unfold World.freeze
  split
  ·rfl
  ·simp only [Array.getElem?_modify]
   rw [if_neg hgb];rfl
 have mixed:=L.mixed
 have t72:=L.t72;have a72:=L.a72;have z72:=L.z72;have v72:=L.v72;have u72:=run_underlying L.t72
 have t70:=L.t70;have a70:=L.a70;have z70:=L.z70;have v70:=L.v70;have u70:=run_underlying L.t70
 have t37:=L.t37;have a37:=L.a37;have z37:=L.z37;have v37:=L.v37;have u37:=run_underlying L.t37
 have t127:=L.t127;have a127:=L.a127;have z127:=L.z127;have v127:=L.v127;have u127:=run_underlying L.t127
 have t3:=L.t3;have a3:=L.a3;have z3:=L.z3;have v3:=L.v3;have u3:=run_underlying L.t3
 have t9:=L.t9;have a9:=L.a9;have z9:=L.z9;have v9:=L.v9;have u9:=run_underlying L.t9
 have t5:=X.t5;have a5:=X.a5;have z5:=X.z5;have v5:=X.v5;have u5:=run_underlying X.t5
 go_enter L.f169,Body.n169_ntmps ρ
 go_wp2
 go_region_o
 all_goals (go_wp2;go_ret;exact ⟨rfl,hkeep,hbb,hrest⟩)
theorem Sh.out {w:World} {T e:Nat} {s:ByteArray} {b:Nat} {gp:List Nat} (h:Sh w T e s b gp) :
  ∃p v,w.heap[b]? = some (.cells #[p,v] T (0,0))∧gp=v.ownBlock.toList∧b∉gp∧Lib.IsBuilderF T e 0 b (Lib.strCells s) w:=by
 obtain ⟨p,v,hb,hp,h⟩:=h
 have hs:=Lib.strCells_length s
 have fin:w.ownsRowF 0 e 1 v (Lib.strCells s).length (Lib.strCells s)→v.ownBlock≠some b→Lib.IsBuilderF T e 0 b (Lib.strCells s) w:=by
  intro h1 h2
  rcases hp with rfl | rfl
  ·exact .inl ⟨Nat.zero_le _,v,hb,h1,h2⟩
  ·exact .inr ⟨Nat.zero_le _,v,hb,h1,h2⟩
 rcases h with ⟨rfl,h0,rfl⟩ | ⟨g,cap,cur,fz,rfl,rfl,hne,hg,hfz,hsz,hcm,hcs,ht⟩
 ·exact ⟨p,_,hb,rfl,by simp,fin ⟨by simp,.inl ⟨rfl,by omega⟩⟩ (by simp [Value.ownBlock])⟩
 ·exact ⟨p,_,hb,rfl,by simpa using fun e=>hne e.symm,fin ⟨by simp,.inr ⟨g,cap,cur,fz,by rw [hs],Nat.zero_le _,hg,by omega,by omega,hcm,by omega,by rw [hs,Nat.mul_one];exact ht⟩⟩ (by simpa [Value.ownBlock] using hne)⟩
theorem Sh.of {w:World} {T e:Nat} {s:ByteArray} {b:Nat} {p:Value} (h:Lib.BuilderAtF T e 0 b p (Lib.strCells s) w) (hp:p = .pointer none∨p = .pointer (some ⟨b,0,none⟩)) :
  ∃v,w.heap[b]? = some (.cells #[p,v] T (0,0))∧b∉v.ownBlock.toList∧Sh w T e s b v.ownBlock.toList:=by
 obtain ⟨_,v,hb,ho,hne⟩:=h
 have hs:=Lib.strCells_length s
 refine ⟨v,hb,by simpa using fun h=>hne h,p,v,hb,hp,?_⟩
 rcases ho.2 with ⟨rfl,h0⟩ | ⟨g,cap,cur,fz,rfl,_,hg,hfz,hsz,hcm,hcs,ht⟩
 ·exact .inl ⟨rfl,by omega,rfl⟩
 ·exact .inr ⟨g,cap,cur,fz,by rw [hs],rfl,fun e=>hne (by rw [e];rfl),hg,by omega,by omega,hcm,by omega,by rw [hs,Nat.mul_one] at ht;exact ht⟩
theorem Avq {w:World} {O:Nat→Prop} {T e:Nat} {s:ByteArray} {xs vs fp} (h:RdL w O (.bp T e s::xs) vs fp) :
  ∃b gp us fp2,vs = .pointer (some ⟨b,0,none⟩)::us∧fp=b::gp++fp2∧Sh w T e s b gp∧(∀c∈b::gp,O c)∧RdL w O xs us fp2:=by
 cases h with
 | leaf hl _=>cases hl
 | grp hg _ _=>cases hg
 | fblk hh _ _ _ _=>cases hh
 | oblk hh _ _ _ _ _=>cases hh
 | bpo hb hO t=>exact ⟨_,_,_,_,rfl,rfl,hb,hO,t⟩
theorem Avh {w:World} {O:Nat→Prop} {s:ByteArray} {vs fp} (h:RdL w O [.str s] vs fp):vs=[.string s]∧fp=[]:=by
 cases h with
 | leaf hl t=>cases hl;cases t;exact ⟨rfl,rfl⟩
 | grp hg _ _=>cases hg
 | fblk hh _ _ _ _=>cases hh
 | oblk hh _ _ _ _ _=>cases hh
theorem Ah0 (a s:ByteArray):Lib.strCells (a++s)=Lib.strCells a++Lib.strCells s:=by
 simp [Lib.strCells]
theorem Ato (a:ByteArray):Lib.strCells a=Lib.byteCells a.data.toList:=rfl
theorem Arc {w w':World} {O:Nat→Prop} {T e:Nat} {s2:ByteArray} {b:Nat} {p0 v0 p2 v2:Value} (_hb:w.heap[b]? = some (.cells #[p0,v0] T (0,0))) (hO : ∀c∈b::v0.ownBlock.toList,O c)
  (h2:w'.heap[b]? = some (.cells #[p2,v2] T (0,0))) (hn:b∉v2.ownBlock.toList) (hA:Sh w' T e s2 b v2.ownBlock.toList) (hr:BRest b v0.ownBlock w w') (hnew : ∀k,v2.ownBlock=some k→v0.ownBlock=some k∨w.heap.size≤k) :
  ∃O',RdL w' O' [.bp T e s2] [.pointer (some ⟨b,0,none⟩)] (b::v2.ownBlock.toList)∧(b::v2.ownBlock.toList).Nodup∧Mv w O (· ∈ b::v0.ownBlock.toList) w' O' (· ∈ b::v2.ownBlock.toList):=by
 refine ⟨fun c=>O c∨c∈b::v2.ownBlock.toList,?_,List.nodup_cons.2 ⟨hn,by cases v2.ownBlock<;>simp⟩,hr.os,hr.tape,hr.output,hr.size,fun k hk hs=> ?_,fun k hk=> ?_⟩
 ·simpa using RdL.bpo (w:=w') (O:=fun c=>O c∨c∈b::v2.ownBlock.toList) hA (fun c hc=> .inr hc) .nil
 ·simp only [List.mem_cons,not_or] at hs
  refine ⟨hr.same k hk hs.1 fun e=>hs.2 (by rw [←e];simp),⟨fun h=> ?_,.inl⟩⟩
  rcases h with h | h
  ·exact h
  ·rcases List.mem_cons.1 h with rfl | h
   ·exact absurd rfl hs.1
   ·rcases hnew k (by simpa using h) with h | h
    ·exact absurd (by rw [h];simp) hs.2
    ·omega
 ·rcases List.mem_cons.1 hk with rfl | h
  ·exact .inl (by simp)
  ·rcases hnew k (by simpa using h) with h | h
   ·exact .inl (by rw [h];simp)
   ·exact .inr h
theorem Abr (L:Lays.n166 P ρ) (X:Builder.Extra P ρ) {a s:ByteArray} (hl:a.size+s.size≤LIM):Iq P (ρ.f 166) [.bp (ρ.t 72) (ρ.t 5) a,.str s] .dead 0 (.bp (ρ.t 72) (ρ.t 5) (a++s)):=by
 intro w O vals fp hr hnd
 obtain ⟨b,gp,us,fp2,rfl,rfl,hA,hO,ht⟩:=Avq hr
 obtain ⟨rfl,rfl⟩:=Avh ht
 obtain ⟨p,v,hb,rfl,hn,hB⟩:=hA.out
 refine ⟨⟨_,_,L.f166,by kernel_rfl,rfl⟩,?_⟩
 refine (Af0 L X 0 b _ s w hb hB (by rw [Lib.strCells_length];unfold LIM at hl;omega) (Nat.zero_le _)).mono ?_
 rintro e w' ⟨rfl,h1,h2,h3⟩
 rw [←Ah0] at h1
 obtain ⟨v2,hb2,hn2,hA2⟩:=Sh.of h1 (.inr rfl)
 obtain ⟨O',r1,r2,r3⟩:=Arc hb hO hb2 hn2 hA2 h2 (h3 _ _ _ _ hb2)
 refine ⟨.dead,[.bp (ρ.t 72) (ρ.t 5) (a++s),.dead],_,O',[],_,⟨rfl,rfl⟩,rfl,.leaf (.dead _) .nil,r1.append (.leaf (.dead _) .nil),?_,?_⟩
 ·simpa using r2
 ·simpa using r3
theorem Amm (L:Lays.n169 P ρ) (X:Builder.Extra P ρ) {a:ByteArray} (hl:0<a.size):Iq P (ρ.f 169) [.bp (ρ.t 72) (ρ.t 5) a] (.str a) 0 (.bp (ρ.t 72) (ρ.t 5) a):=by
 intro w O vals fp hr hnd
 obtain ⟨b,gp,us,fp2,rfl,rfl,hA,hO,ht⟩:=Avq hr
 cases ht
 obtain ⟨p,v,hb,rfl,hn,hB⟩:=hA.out
 refine ⟨⟨_,_,L.f169,by kernel_rfl,rfl⟩,?_⟩
 refine (Arb L X 0 b a.data.toList w hb hB (fun e=>by
  have:a.size=0:=by show a.data.size=0;rw [←Array.length_toList,e];rfl
  omega)).mono ?_
 rintro e w' ⟨rfl,h1,h2,h3⟩
 obtain ⟨p2,hp2,h1⟩ : ∃p2,(p2 = .pointer none∨p2 = .pointer (some ⟨b,0,none⟩))∧Lib.BuilderAtF (ρ.t 72) (ρ.t 5) 0 b p2 (Lib.strCells a) w':=by
  rcases h1 with h | h
  ·exact ⟨_,.inl rfl,h⟩
  ·exact ⟨_,.inr rfl,h⟩
 obtain ⟨v2,hb2,hn2,hA2⟩:=Sh.of h1 hp2
 have e2:v2=v:=by
  rw [h2,hb] at hb2
  simp only [Option.some.injEq,Obj.cells.injEq,Array.mk.injEq,List.cons.injEq] at hb2
  exact hb2.1.2.1.symm
 subst e2
 obtain ⟨O',r1,r2,r3⟩:=Arc hb hO hb2 hn2 hA2 h3 (fun k h=> .inl h)
 refine ⟨.str a,[.bp (ρ.t 72) (ρ.t 5) a],_,O',[],_,⟨rfl,rfl⟩,rfl,.leaf (.str _) .nil,r1,?_,?_⟩
 ·simpa using r2
 ·simpa using r3
theorem Aub : ∀n,n<100→Lib.decDigits n=Zd n:=by decide +kernel
theorem Ary (L:Lays.n171 P ρ) {n:Int} (h0:0≤n∧n<100):Ret P (ρ.f 171) [Af n] (.str ⟨(Zd n.toNat).toArray⟩):=by
 obtain ⟨i,rfl⟩ : ∃i:Nat,n=i:=⟨n.toNat,by omega⟩
 intro w O vals fp hr hnd
 obtain ⟨v,vs2,f1,f2,rfl,rfl,h1,h2⟩:=hr.cons_split
 cases h2
 have ev:v = .int .i64 i:=by
  cases h1 with
  | leaf hl t=>cases hl;rfl
  | grp hg _ _=>cases hg
  | fblk hh _ _ _ _=>cases hh
  | oblk hh _ _ _ _ _=>cases hh
 subst ev
 have ef:=h1.noOwn rfl
 subst ef
 refine ⟨⟨_,_,L.f171,by kernel_rfl,rfl⟩,?_⟩
 refine (Any.strconv_Itoa_small L i (by omega) w).mono ?_
 rintro e w' ⟨rfl,rfl⟩
 rw [Aub i (by omega)]
 exact ⟨_,[.dead],_,O,[],[],rfl,rfl,.leaf (.str _) .nil,.leaf (.dead _) .nil,by simp,by simpa using Mv.refl _ O _⟩
end
end Go.Proofs.YtbnoclklhcbidaaDoor.Ax
