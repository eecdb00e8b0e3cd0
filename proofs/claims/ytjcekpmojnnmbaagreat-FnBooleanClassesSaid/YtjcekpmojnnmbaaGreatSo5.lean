/-
 Sorting rows, at this program.
-/
import Derived.Test.YtjcekpmojnnmbaaGreatSo4
import Derived.Test.YtjcekpmojnnmbaaGreatCode
import Derived.Test.YtjcekpmojnnmbaaGreatProg
namespace Go.Proofs.YtjcekpmojnnmbaaGreat.Ax
open Go Go.Proofs Go.Shelf Go.RowKit Go.Lib Go.Sort
set_option maxRecDepth 100000
def Ap9:Go.Shelf.Ren:=⟨fun | 8=>141 | 13=>151 | 14=>152 | 16=>154 | 15=>153 | 29=>166 | 30=>167 | 42=>169 | 49=>170 | n=>n,fun | 20=>20 | 26=>79 | 36=>146 | 0=>0 | 38=>148 | 42=>152 | 3=>3 | 4=>4 | 47=>111 | 17=>17 | 33=>143 | 34=>144 | 89=>173 | 12=>12 | 56=>165 | 82=>166 | 5=>5 | 83=>167 | 84=>168 | 85=>169 | 86=>170 | 87=>171 | n=>n,fun | n=>n⟩
theorem Auq:Go.Proofs.LaysGt.n8 Tryz.prog Ap9 where
 mixed:=by kernel_rfl
 f8:=Tryz.func141.trans (congrArg some (by kernel_rfl))
 f13:=Tryz.func151.trans (congrArg some (by kernel_rfl))
 f14:=Tryz.func152.trans (congrArg some (by kernel_rfl))
 f15:=Tryz.func153.trans (congrArg some (by kernel_rfl))
 f16:=Tryz.func154.trans (congrArg some (by kernel_rfl))
 f29:=Tryz.func166.trans (congrArg some (by kernel_rfl))
 f30:=Tryz.func167.trans (congrArg some (by kernel_rfl))
 f42:=Tryz.func169.trans (congrArg some (by kernel_rfl))
 f49:=Tryz.func170.trans (congrArg some (by kernel_rfl))
 t0:=Tryz.underlying0
 a0:=Tryz.isAgg0
 z0:=Tryz.sizeOf0
 v0:=Tryz.zeroValue0
 i0:=by kernel_rfl
 t3:=Tryz.underlying3
 a3:=Tryz.isAgg3
 z3:=Tryz.sizeOf3
 v3:=Tryz.zeroValue3
 i3:=by kernel_rfl
 t4:=Tryz.underlying4
 a4:=Tryz.isAgg4
 z4:=Tryz.sizeOf4
 v4:=Tryz.zeroValue4
 i4:=by kernel_rfl
 t5:=Tryz.underlying5
 a5:=Tryz.isAgg5
 z5:=Tryz.sizeOf5
 v5:=Tryz.zeroValue5
 i5:=by kernel_rfl
 t12:=Tryz.underlying12
 a12:=Tryz.isAgg12
 z12:=Tryz.sizeOf12
 v12:=Tryz.zeroValue12
 i12:=by kernel_rfl
 t17:=Tryz.underlying17
 a17:=Tryz.isAgg17
 z17:=Tryz.sizeOf17
 v17:=Tryz.zeroValue17
 i17:=by kernel_rfl
 t20:=Tryz.underlying20
 a20:=Tryz.isAgg20
 z20:=Tryz.sizeOf20
 v20:=Tryz.zeroValue20
 i20:=by kernel_rfl
 t26:=Tryz.underlying79
 a26:=Tryz.isAgg79
 z26:=Tryz.sizeOf79
 v26:=Tryz.zeroValue79
 i26:=by kernel_rfl
 t33:=Tryz.underlying143
 a33:=Tryz.isAgg143
 z33:=Tryz.sizeOf143
 v33:=Tryz.zeroValue143
 i33:=by kernel_rfl
 t34:=Tryz.underlying144
 a34:=Tryz.isAgg144
 z34:=Tryz.sizeOf144
 v34:=Tryz.zeroValue144
 i34:=by kernel_rfl
 t36:=Tryz.underlying146
 a36:=Tryz.isAgg146
 z36:=Tryz.sizeOf146
 v36:=Tryz.zeroValue146
 i36:=by kernel_rfl
 t38:=Tryz.underlying148
 a38:=Tryz.isAgg148
 z38:=Tryz.sizeOf148
 v38:=Tryz.zeroValue148
 i38:=by kernel_rfl
 t42:=Tryz.underlying152
 a42:=Tryz.isAgg152
 z42:=Tryz.sizeOf152
 v42:=Tryz.zeroValue152
 i42:=by kernel_rfl
 t47:=Tryz.underlying111
 a47:=Tryz.isAgg111
 z47:=Tryz.sizeOf111
 v47:=Tryz.zeroValue111
 i47:=by kernel_rfl
 t56:=Tryz.underlying165
 a56:=Tryz.isAgg165
 z56:=Tryz.sizeOf165
 v56:=Tryz.zeroValue165
 i56:=by kernel_rfl
 t82:=Tryz.underlying166
 a82:=Tryz.isAgg166
 z82:=Tryz.sizeOf166
 v82:=Tryz.zeroValue166
 i82:=by kernel_rfl
 t83:=Tryz.underlying167
 a83:=Tryz.isAgg167
 z83:=Tryz.sizeOf167
 v83:=Tryz.zeroValue167
 i83:=by kernel_rfl
 t84:=Tryz.underlying168
 a84:=Tryz.isAgg168
 z84:=Tryz.sizeOf168
 v84:=Tryz.zeroValue168
 i84:=by kernel_rfl
 t85:=Tryz.underlying169
 a85:=Tryz.isAgg169
 z85:=Tryz.sizeOf169
 v85:=Tryz.zeroValue169
 i85:=by kernel_rfl
 t86:=Tryz.underlying170
 a86:=Tryz.isAgg170
 z86:=Tryz.sizeOf170
 v86:=Tryz.zeroValue170
 i86:=by kernel_rfl
 t87:=Tryz.underlying171
 a87:=Tryz.isAgg171
 z87:=Tryz.sizeOf171
 v87:=Tryz.zeroValue171
 i87:=by kernel_rfl
 t89:=Tryz.underlying173
 a89:=Tryz.isAgg173
 z89:=Tryz.sizeOf173
 v89:=Tryz.zeroValue173
 i89:=by kernel_rfl
noncomputable def soT:TypeInfo:=(Tryz.prog.info? 41).get (by kernel_rfl)
noncomputable def soE:TypeInfo:=(Tryz.prog.info? 36).get (by kernel_rfl)
theorem soK (n:Nat) (h2:2≤n):Lib.swapperK n soE 23=9:=by
 have a:soE.hasPointers=true:=by kernel_rfl
 have b:soE.bytes=24:=by kernel_rfl
 have c:(n==0)=false:=by simp;omega
 have d:(n==1)=false:=by simp;omega
 simp [Lib.swapperK,a,b,c,d]
theorem A36:Lib.swapperK 0 soE 23=1:=by simp [Lib.swapperK]
theorem A35:Lib.swapperK 1 soE 23=2:=by simp [Lib.swapperK]
theorem Adb {rows0:List (List Int)} {order0:List Int→List Int→Option Int} {f_order0:Nat} {c_order0:List V}
  (h_order0 : ∀w_0 w_1 v,order0 w_0 w_1=some v→Ret Tryz.prog f_order0 ([(slr false 1 Ae) w_0,(slr false 1 Ae) w_1]++fzL c_order0) (Ae v))
  {i j:Int} (hi:0≤i∧i<rows0.length) (hj:0≤j∧j<rows0.length) {c:Int} (h:order0 (nth rows0 i.toNat) (nth rows0 j.toNat)=some c) :
  Ret Tryz.prog Sk [Ae i,Ae j,V.ptr false (V.fclo f_order0 c_order0),V.ptr false ((slr false 1 (slr false 1 Ae)) rows0)] (V.bool (decide (c<0))):=by
 refine A5 Abw (Nat.le_of_ble_eq_true rfl) ?_
 conv=>whnf
 refine Len.map ?_
 refine ⟨hi,?_⟩
 conv=>whnf
 refine Elem.o (by omega) ?_
 conv=>whnf
 refine Len.map ?_
 refine ⟨hj,?_⟩
 conv=>whnf
 refine Elem.o (by omega) ?_
 conv=>whnf
 refine CloQ.o (oo:=order0 (nth rows0 i.toNat) (nth rows0 j.toNat)) (k:=fun r=>some r) (v:=c) Ae (by first | rfl | simp only [Aa,V.fz,fzL,V.up,upL,Ab,Ac,Ad,slr,List.cons_append,List.nil_append]) (fun _=>by first | rfl | simp [D0,V.noFz]) (by rw [h];rfl) (fun r h=>h_order0 _ _ _ h) (fun r hr=> ?_)
 cases hr
 conv=>whnf
 rfl
theorem Aoq {xs:List (List Int)} {i:Nat} (h:i<xs.length):xs[i]=nth xs i:=by
 unfold nth;simp [h]
theorem Ael (rows:List (List Int)):Bg (rows.map (slr true 1 Ae))=rows.map (slr true 1 Ae):=by
 induction rows with
 | nil=>rfl
 | cons x r ih=>simp only [List.map_cons,Bg,ih];rfl
theorem Ah9 (rows:List (List Int)):Bg (rows.map (slr false 1 Ae))=rows.map (slr false 1 Ae):=by
 induction rows with
 | nil=>rfl
 | cons x r ih=>simp only [List.map_cons,Bg,ih];rfl
theorem Awg (rows:List (List Int)):A9 (rows.map (slr false 1 Ae))=false:=by
 induction rows with
 | nil=>rfl
 | cons x r ih=>simp only [List.map_cons,A9,ih];rfl
theorem Au8 {w:World} {O:Nat→Prop} {r:List Int} {v:Value} {g:List Nat} (h:RdL w O [(slr true 1 Ae) r] [v] g) : ∃p n c,v = .slice p n c:=by
 generalize hx:(slr true 1 Ae) r=x at h
 cases h with
 | leaf hl t=>
   cases hl<;>first | exact ⟨_,_,_,rfl⟩ | cases hx
 | grp hg s t=>cases hg<;>cases hx
 | fblk hh hc hO s t=>cases hh<;>cases hx
 | mpf=>cases hx
 | mpo=>cases hx
 | oblk hh hb hO hk s t=>
   cases hh with
   | sl=>exact ⟨_,_,_,rfl⟩
   | ptr=>cases hx
set_option maxHeartbeats 2000000 in
set_option maxRecDepth 100000 in
theorem At8 {p:Option Addr} {n c f:Nat} {us:Array Value} {w:World} {R:World→Prop}
  (hS:Calls Tryz.prog 141 #[.iface 41 (.slice p n c),.func (.func 142) #[] #[.pointer (some ⟨w.heap.size+1,0,none⟩),.pointer (some ⟨w.heap.size,0,none⟩)]] ((w.alloc (.cells #[.slice p n c] 41)).alloc (.cells #[.func (.func f) #[] us] 123)) fun e w'=>e = .returned (.tuple #[])∧R w') :
  Calls Tryz.prog 113 #[.slice p n c,.func (.func f) #[] us] w fun e w'=>e = .returned (.tuple #[])∧R w':=by
 go_enter Tryz.func113,Tryz.ntmps113
 go_wp2_with (go_at_call 141;refine hS.mono ?_;rintro e w' ⟨rfl,hR⟩)
 go_end0
 exact ⟨rfl,hR⟩
theorem At3 {w w':World} {O:Nat→Prop} {xs vs fp} (h:RdL w O xs vs fp) (hs : ∀b,b<w.heap.size→w'.heap[b]? = w.heap[b]?):RdL w' O xs vs fp:=
 h.frame (fun b hb=>⟨hs b (h.fpO b hb).2,(h.fpO b hb).1⟩) fun b hO hb=>⟨hs b hb,hO⟩
theorem Axp {f:Nat} {w w':World} {O:Nat→Prop} {v1:Value} {us:List Value} {cs:List V} {ys:List (List Int)} {f1 g:List Nat} (hp:g.Perm f1) (hnd:f1.Nodup)
  (hr:RdL w' O [(slr true 1 (slr true 1 Ae)) ys] [v1] g) (hc:RdL w' O (fzL cs) us []) (hos:w'.os=w.os∧w'.tape=w.tape∧w'.output=w.output) (hsz:w.heap.size≤w'.heap.size)
  (hs : ∀b,b<w.heap.size→b∉f1→w'.heap[b]? = w.heap[b]?) :
  ∃res outs rv O' fpr fpo,(res=V.tup []∧outs[0]? = some ((slr true 1 (slr true 1 Ae)) ys))∧(Ending.returned (.tuple #[])) = .returned rv∧RdL w' O' [res] [rv] fpr∧RdL w' O' outs [v1,.func (.func f) #[] us.toArray] fpo∧(fpr++fpo).Nodup ∧
    Mv w O (· ∈ f1++[]) w' O' (· ∈ fpr++fpo):=by
 refine ⟨V.tup [],[(slr true 1 (slr true 1 Ae)) ys,V.fclo f cs],.tuple #[],O,[],g,⟨rfl,rfl⟩,rfl,.grp (fp1:=[]) (fp2:=[]) (.tup [] []) .nil .nil,?_,by simpa using hp.nodup_iff.2 hnd,⟨hos.1,hos.2.1,hos.2.2,hsz,fun b hb hS=>⟨hs b hb (by simpa using hS),Iff.rfl⟩,fun b hb=> .inl (by simpa using hp.mem_iff.1 (by simpa using hb))⟩⟩
 have h2:RdL w' O [V.fclo f cs] [.func (.func f) #[] us.toArray] []:= .grp (fp1:=[]) (fp2:=[]) (.fclo _ _ _ _ rfl) hc .nil
 have:=RdL.cons_join hr h2
 simpa using this
set_option maxHeartbeats 2000000 in
set_option maxRecDepth 100000 in
theorem Agv {rows0:List (List Int)} {order0:List Int→List Int→Option Int} {f_order0:Nat} {c_order0:List V}
  (h_order0 : ∀w_0 w_1 v,order0 w_0 w_1=some v→Ret Tryz.prog f_order0 ([(slr false 1 Ae) w_0,(slr false 1 Ae) w_1]++fzL c_order0) (Ae v))
  {v:Unit×List (List Int)} (h:F2 rows0 order0=some v):Rc Tryz.prog Wr [(slr true 1 (slr true 1 Ae)) rows0,V.fclo f_order0 c_order0] (V.tup []) 0 ((slr true 1 (slr true 1 Ae)) v.2):=by
 unfold F2 at h
 split at h
 case isFalse=>cases h
 rename_i hx
 obtain ⟨hn,hx2⟩:=hx
 obtain ⟨hO,hone,hcmp⟩:=Classical.choose_spec hx2
 generalize Classical.choose hx2=lt at hO hone hcmp h
 cases h
 intro w O vals fp hr hnd
 obtain ⟨v1,vs2,f1,f2,rfl,rfl,r1,r2'⟩:=hr.cons_split
 obtain ⟨v2,vs3,f2a,f3,rfl,rfl,r2,r3⟩:=r2'.cons_split
 cases r3
 have e2:f2a=[]:=r2.noOwn rfl
 subst e2
 obtain ⟨us,rfl,rus⟩:=Aun r2
 have hnd1:f1.Nodup:=by simpa using hnd
 refine ⟨⟨_,_,Tryz.func113,by kernel_rfl,rfl⟩,?_⟩
 by_cases hlen:rows0.length≤1
 ·-- nothing to sort
  obtain ⟨p,n,c,rfl,hnl⟩ : ∃p n c,v1 = .slice p n c∧n≤1:=by
   generalize hx:(slr true 1 (slr true 1 Ae)) rows0=x at r1
   cases r1 with
   | leaf hl t=>
     cases hl<;>first | exact ⟨_,_,_,rfl,Nat.zero_le _⟩ | cases hx
   | grp hg s t=>cases hg<;>cases hx
   | fblk hh hc hO s t=>cases hh<;>cases hx
   | mpf=>cases hx
   | mpo=>cases hx
   | oblk hh hb hO hk s t=>
     cases hh with
     | sl=>cases hx;exact ⟨_,_,_,rfl,by simpa using hlen⟩
     | ptr=>cases hx
  have hK : ∃ff,Tryz.prog.funcs.findIdx? (·.name == "internal/reflectlite" ++ ".Swapper$" ++ toString (Lib.swapperK n soE 23))=some ff:=by
   have:n=0∨n=1:=by omega
   rcases this with rfl | rfl
   ·exact ⟨157,by rw [A36];kernel_rfl⟩
   ·exact ⟨158,by rw [A35];kernel_rfl⟩
  obtain ⟨ff,hff⟩:=hK
  have hS:=fun w:World=>Any.sort_SliceStable_tiny Auq 41 36 soT soE (by kernel_rfl) (by kernel_rfl) (by kernel_rfl) (by kernel_rfl) 23 (fun _=>by kernel_rfl) p n c hnl ff hff (.func 142) #[] #[.pointer (some ⟨w.heap.size+1,0,none⟩),.pointer (some ⟨w.heap.size,0,none⟩)] ((w.alloc (.cells #[.slice p n c] 41)).alloc (.cells #[.func (.func f_order0) #[] us.toArray] 123))
  have e:(rows0.mergeSort fun x y => !lt y x)=rows0:=by
   match rows0,hlen with
   | [],_=>simp
   | [x],_=>simp
  rw [e]
  refine (At8 (hS w)).mono ?_
  rintro ee w' ⟨rfl,os,rfl⟩
  have hs : ∀b,b<w.heap.size→(grow ((w.alloc (.cells #[.slice p n c] 41)).alloc (.cells #[.func (.func f_order0) #[] us.toArray] 123)) os).heap[b]? = w.heap[b]? := fun b hb=>by
   rw [alloc_eq_grow,alloc_eq_grow,grow_grow,grow_grow]
   exact heap_grow_old w _ hb
  exact Axp (List.Perm.refl _) hnd1 (At3 r1 hs) (At3 rus hs) ⟨rfl,rfl,rfl⟩ (by rw [alloc_eq_grow,alloc_eq_grow,grow_grow,grow_grow,size_grow];omega) fun b hb _=>hs b hb
 ·have hn2:2≤rows0.length:=by omega
  obtain ⟨b,cap,arr,e,fp1,rfl,rfl,hb,hOb,hk,hs⟩ : ∃b cap arr e fp1,v1 = .slice (some ⟨b,0,none⟩) rows0.length cap∧f1=b::fp1∧w.heap[b]? = some (.cells arr e (0,0))∧O b∧(rows0.length≤cap∧cap*1≤arr.size)∧RdL w O (rows0.map (slr true 1 Ae)) (arr.toList.take rows0.length) fp1:=by
   generalize hx:(slr true 1 (slr true 1 Ae)) rows0=x at r1
   cases r1 with
   | leaf hl t=>
     cases hl<;>first
      | cases hx
      | (have:=congrArg (fun z=>match z with | V.sl _ _ l=>l.length | _=>0) hx
         simp at this
         subst this
         simp at hn2)
   | grp hg s t=>cases hg<;>cases hx
   | fblk hh hc hO s t=>cases hh<;>cases hx
   | mpf=>cases hx
   | mpo=>cases hx
   | @oblk _ _ b0 k0 ch0 arr0 e0 g1 _ _ g2 hh hb hO hk s t=>
     cases hh with
     | sl _ m xs _ _ cap hm hcap=>
       cases hx
       cases t
       rw [Ael] at s
       exact ⟨b0,cap,arr0,e0,g1,by simp,by simp,hb,hO,⟨by simpa using hcap,hk⟩,by simpa using s⟩
     | ptr=>cases hx
  have hbl:b<w.heap.size:=(Array.getElem?_eq_some_iff.1 hb).1
  obtain ⟨fps,hfl,rfl,hpc⟩:=hs.pieces
  rw [List.length_map] at hfl hpc
  have hbn:b∉fps.flatten:=(List.nodup_cons.1 hnd1).1
  have hpos:0<rows0.length:=by omega
  letI:Inhabited (Fin rows0.length):=⟨⟨0,hpos⟩⟩
  have pc : ∀k:Fin rows0.length,RdL w O [(slr true 1 Ae) (nth rows0 k)] [(arr.toList.take rows0.length).getD k undef] (fps.getD k []):=fun k=>by
   have:=hpc k k.2
   rwa [List.getD_eq_getElem?_getD,List.getElem?_map,List.getElem?_eq_getElem k.2,show rows0[(k:Nat)]=nth rows0 k from Aoq k.2] at this
  have hpf : ∀k:Fin rows0.length,b∉fps.getD k []:=fun k hm=>hbn (by
   rw [List.getD_eq_getElem?_getD,List.getElem?_eq_getElem (by rw [hfl];exact k.2)] at hm
   exact List.mem_flatten.2 ⟨_,List.getElem_mem _,hm⟩)
  generalize hEnc:(fun k:Fin rows0.length=>(arr.toList.take rows0.length).getD k undef)=enc
  have hE : ∀k,(arr.toList.take rows0.length).getD (k:Fin rows0.length) undef=enc k:=fun k=>by rw [←hEnc]
  have hE1 : ∀k,(enc k).oneCell'=true:=fun k=>by
   have:=pc k
   rw [hE] at this
   obtain ⟨p,n,c,e⟩:=Au8 this
   rw [e];rfl
  have hcl : ∀k:Fin rows0.length,w.cell? ⟨b,k,none⟩=some (enc k):=fun k=>by
   have h1:(k:Nat)<arr.size:=by have:=k.2;omega
   rw [←hE]
   simp [World.cell?,hb,h1,List.getD_eq_getElem?_getD]
  generalize hd:(Array.ofFn fun k:Fin rows0.length=>k)=d
  have hds:d.size=rows0.length:=by rw [←hd];simp
  have hdj : ∀j (hj:j<rows0.length),d[j]! = ⟨j,hj⟩:=fun j hj=>by
   rw [getElem!_pos d j (by omega)];subst hd;simp
  generalize hw1:(w.alloc (.cells #[.slice (some ⟨b,0,none⟩) rows0.length cap] 41)).alloc (.cells #[.func (.func f_order0) #[] us.toArray] 123)=w1
  have hg:w1=grow w #[.cells #[.slice (some ⟨b,0,none⟩) rows0.length cap] 41,.cells #[.func (.func f_order0) #[] us.toArray] 123]:=by
   rw [←hw1,alloc_eq_grow,alloc_eq_grow,grow_grow];rfl
  have hw1s:w1.heap.size=w.heap.size+2:=by rw [hg,size_grow];rfl
  have hold : ∀z,z<w.heap.size→w1.heap[z]? = w.heap[z]? := fun z hz=>by rw [hg];exact heap_grow_old w _ hz
  have hbox0:w1.cell? ⟨w.heap.size,0,none⟩=some (.slice (some ⟨b,0,none⟩) rows0.length cap):=by
   rw [hg];simp [World.cell?,grow]
  have hbox1:w1.cell? ⟨w.heap.size+1,0,none⟩=some (.func (.func f_order0) #[] us.toArray):=by
   rw [hg];simp [World.cell?,grow]
  have hH:Holds enc w1 b 0 d:=fun j hj=>by
   rw [hds] at hj
   refine ⟨?_,?_⟩
   ·rw [hdj j hj,Uj (hold b hbl),Nat.zero_add]
    exact hcl ⟨j,hj⟩
   ·simp [World.frozen?,hold b hbl,hb]
  have piece : ∀ {W:World} {dk:Array (Fin rows0.length)},SX enc w1 b 0 dk W → ∀k:Fin rows0.length,RdL W O [(slr true 1 Ae) (nth rows0 k)] [enc k] (fps.getD k []):=fun {W dk} hW k=>by
   have hp:=pc k
   rw [hE] at hp
   have keep : ∀z,z<w.heap.size→z≠b→W.heap[z]? = w.heap[z]? := fun z hz hzb=>by
    rw [hW.heap (by omega) hzb,hold z hz]
   exact hp.frame (fun z hz=>⟨keep z (hp.fpO z hz).2 (fun e=>hpf k (by rw [←e];exact hz)),(hp.fpO z hz).1⟩) fun z hO hz=>⟨keep z hz (fun e=>hO (by rw [e];exact hOb)),hO⟩
  have hcap : ∀ {W:World} {dk:Array (Fin rows0.length)},SX enc w1 b 0 dk W→RdL W O (fzL c_order0) us []:=fun {W dk} hW=>
   rus.frame (by simp) fun z hO hz=>⟨by rw [hW.heap (by omega) (fun e=>hO (by rw [e];exact hOb)),hold z hz],hO⟩
  have hless:Afx Tryz.prog 142 #[.pointer (some ⟨w.heap.size+1,0,none⟩),.pointer (some ⟨w.heap.size,0,none⟩)] enc (fun x y=>lt (nth rows0 x) (nth rows0 y)) b 0 d.size w1:=by
   intro W dk hW hsz i j hi hj
   rw [hds] at hsz hi hj
   have hfr : ∀k:Fin rows0.length,RdL W (fun _=>False) [(slr false 1 Ae) (nth rows0 k)] [enc k] []:=fun k=>by
    have:=(piece hW k).fz (O2:=fun _=>False) (by simp) (by simp)
    simpa [fzL,Ac,Ad,slr] using this
   have hrows:RdL W (fun _=>False) ((dk.toList.map fun k=>nth rows0 (k:Fin rows0.length)).map (slr false 1 Ae)) (dk.toList.map enc) []:=by
    have:=RdL.gather (w:=W) (O:=fun _=>False) (X:=fun k=>(slr false 1 Ae) (nth rows0 k)) (U:=fun k=>if h:k<rows0.length then enc ⟨k,h⟩ else undef) (F:=fun _=>[]) (dk.toList.map fun k:Fin rows0.length=>k.val) (fun k hk=>by
     obtain ⟨q,_,rfl⟩:=List.mem_map.1 hk
     simpa using hfr q)
    have g1:(dk.toList.map fun k:Fin rows0.length=>k.val).map (fun k=>(slr false 1 Ae) (nth rows0 k))=(dk.toList.map fun k=>nth rows0 (k:Fin rows0.length)).map (slr false 1 Ae):=by simp [List.map_map,Function.comp_def]
    have g2:(dk.toList.map fun k:Fin rows0.length=>k.val).map (fun k=>if h:k<rows0.length then enc ⟨k,h⟩ else undef)=dk.toList.map enc:=by
     rw [List.map_map]
     exact List.map_congr_left fun k _=>by simp
    have g3:((dk.toList.map fun k:Fin rows0.length=>k.val).map fun _=>([]:List Nat)).flatten=[]:=by simp
    rw [g1,g2,g3] at this
    exact this
   generalize hrw:(dk.toList.map fun k=>nth rows0 (k:Fin rows0.length))=rows1 at hrows
   have hl1:rows1.length=rows0.length:=by rw [←hrw];simpa using hsz
   have hn1 : ∀k (hk:k<rows0.length),nth rows1 k=nth rows0 (dk[k]! : Fin rows0.length):=fun k hk=>by
    rw [←Aoq (by omega)]
    subst hrw
    simp [getElem!_pos dk k (by omega)]
   have hm : ∀k:Fin rows0.length,nth rows0 k∈rows0:=fun k=>by rw [←Aoq k.2];exact List.getElem_mem _
   obtain ⟨cc,h1,h2⟩:=hcmp (nth rows0 dk[i]!) (hm _) (nth rows0 dk[j]!) (hm _)
   have hbx : ∀z v,w.heap.size≤z→z<w1.heap.size→w1.cell? ⟨z,0,none⟩=some v→W.cell? ⟨z,0,none⟩=some v:=fun z v hz1 hz2 hv=>by
    rw [Uj (hW.heap hz2 (by omega))];exact hv
   have hrd:RdL W (fun _=>False) [Ae (i:Int),Ae (j:Int),V.ptr false (V.fclo f_order0 c_order0),V.ptr false ((slr false 1 (slr false 1 Ae)) rows1)] [.int .i64 i,.int .i64 j,.pointer (some ⟨w.heap.size+1,0,none⟩),.pointer (some ⟨w.heap.size,0,none⟩)] []:=by
    refine .leaf (.int _ _) (.leaf (.int _ _) (.fblk (vch:=[.func (.func f_order0) #[] us.toArray]) (.ptr false _ _ 0) ?_ ⟨.inr id,rfl⟩ ?_ (.fblk (vch:=[.slice (some ⟨b,0,none⟩) rows0.length cap]) (.ptr false _ _ 0) ?_ ⟨.inr id,rfl⟩ ?_ .nil)))
    ·intro k hk
     have:k=0:=by simpa using hk
     subst this
     exact hbx _ _ (by omega) (by omega) hbox1
    ·exact .grp (fp1:=[]) (fp2:=[]) (.fclo _ _ _ _ rfl) ((hcap hW).frame (O':=fun _=>False) (by simp) (fun _ _ _=>⟨rfl,id⟩)) .nil
    ·intro k hk
     have:k=0:=by simpa using hk
     subst this
     exact hbx _ _ (by omega) (by omega) hbox0
    ·have hh:Hdr ((slr false 1 (slr false 1 Ae)) rows1) (.slice (some ⟨b,0,none⟩) rows0.length cap) false b 0 (cap*1) (Bg (rows1.map (slr false 1 Ae))):=by
      have:=Hdr.sl false 1 (rows1.map (slr false 1 Ae)) b 0 cap (fun x hx=>by obtain ⟨r,_,rfl⟩:=List.mem_map.1 hx;rfl) (by simpa [hl1] using hk.1)
      rwa [List.length_map,hl1] at this
     refine .fblk (vch:=dk.toList.map enc) hh ?_ ⟨.inr id,?_⟩ ?_ .nil
     ·intro k hk'
      have hk2:k<rows0.length:=by simpa [hsz] using hk'
      have:=(hW.holds (by omega) hH (by rw [hds];exact hsz)) k (by omega)
      rw [this.1]
      simp [hk2,hsz]
     ·rw [Ah9];exact Awg _
     ·rw [Ah9];exact hrows
   obtain ⟨-,hcall⟩:=(Adb h_order0 (rows0:=rows1) (i:=(i:Int)) (j:=(j:Int)) ⟨by omega,by omega⟩ ⟨by omega,by omega⟩ (c:=cc) (by rw [Int.toNat_natCast,Int.toNat_natCast,hn1 i hi,hn1 j hj];exact h1)) W (fun _=>False) _ [] hrd List.nodup_nil
   refine Calls.mono (R:=_) hcall ?_
   rintro ee w' ⟨res,outs,rv,O',fpr,fpo,rfl,rfl,hres,_,_,hmv⟩
   refine ⟨?_,hmv.same_world⟩
   show Ending.returned rv = .returned (.bool (lt (nth rows0 dk[i]!) (nth rows0 dk[j]!)))
   rw [h2]
   cases hres with
   | leaf hl t=>cases hl;rfl
   | grp hg s t=>cases hg
   | fblk hh hc hO s t=>cases hh
   | oblk hh hb hO hk s t=>cases hh
  have hOr:SWO fun x y:Fin rows0.length=>lt (nth rows0 x) (nth rows0 y):=⟨fun x=>hO.irrefl _,fun x y z h1 h2=>hO.trans _ _ _ h1 h2,fun x y z h1 h2=>hO.ntrans _ _ _ h1 h2⟩
  have hS:=Akz Auq 41 36 soT soE (by kernel_rfl) (by kernel_rfl) (by kernel_rfl) (by kernel_rfl) 23 (fun _=>by kernel_rfl) (by kernel_rfl) (fun _=>by kernel_rfl) enc hE1 _ hOr 142 _ (enters_of Tryz.func142 (by kernel_rfl) rfl) b 0 cap d (by omega) (by omega) 165 (by rw [soK _ (by omega)];kernel_rfl) false
   (fun args W=>run_callFunc_extern Tryz.func165 (by kernel_rfl) (by kernel_rfl) (by kernel_rfl) (e:=Extern.ReflectliteSwapper.swap false) (by kernel_rfl) args W) w1 hless hH (by omega)
  rw [hds] at hS
  subst hw1
  refine (At8 hS).mono ?_
  rintro ee w' ⟨rfl,d',p1,p2,hW⟩
  have hds':d'.size=rows0.length:=p1.1.trans hds
  have hperm:d'.toList.Perm d.toList:=by
   have a1:d'.extract 0 rows0.length=d':=by
    have h:=Array.extract_size (xs:=d')
    rw [hds'] at h;exact h
   have a2:d.extract 0 rows0.length=d:=by
    have h:=Array.extract_size (xs:=d)
    rw [hds] at h;exact h
   have:=p1.2.2
   rwa [a1,a2] at this
  have hdl:d.toList.map (fun k=>nth rows0 (k:Fin rows0.length))=rows0:=by
   subst hd
   apply List.ext_getElem
   ·simp
   ·intro k h1 h2
    simp [Aoq h2]
  have hys:d'.toList.map (fun k=>nth rows0 (k:Fin rows0.length))=rows0.mergeSort fun x y => !lt y x:=by
   have hp:(d'.toList.map fun k=>nth rows0 (k:Fin rows0.length)).Perm rows0:=by
    have:=hperm.map fun k=>nth rows0 (k:Fin rows0.length)
    rwa [hdl] at this
   refine List.Perm.eq_of_pairwise (le:=fun a b=>lt b a=false) (fun a b _ _ h h'=>hone a b h' h) ?_ (Q0.sorted hO rows0) (hp.trans (List.mergeSort_perm _ _).symm)
   rw [List.pairwise_map,List.pairwise_iff_getElem]
   intro x y hx hy hxy
   have:=p2 x y (Nat.zero_le _) hxy (by simpa [hds'] using hy)
   simp only [Array.length_toList] at hx hy
   rw [getElem!_pos d' x hx,getElem!_pos d' y hy] at this
   simpa using this
  show ∃res outs rv O' fpr fpo,(res=V.tup []∧outs[0]? = some ((slr true 1 (slr true 1 Ae)) (rows0.mergeSort fun x y => !lt y x)))∧_
  rw [←hys]
  have hgat:RdL w' O ((d'.toList.map fun k=>nth rows0 (k:Fin rows0.length)).map (slr true 1 Ae)) (d'.toList.map enc) (d'.toList.map fun k=>fps.getD (k:Fin rows0.length) []).flatten:=by
   have:=RdL.gather (w:=w') (O:=O) (X:=fun k=>(slr true 1 Ae) (nth rows0 k)) (U:=fun k=>if h:k<rows0.length then enc ⟨k,h⟩ else undef) (F:=fun k=>fps.getD k []) (d'.toList.map fun k:Fin rows0.length=>k.val) (fun k hk=>by
    obtain ⟨q,_,rfl⟩:=List.mem_map.1 hk
    simpa using piece hW q)
   have g1:(d'.toList.map fun k:Fin rows0.length=>k.val).map (fun k=>(slr true 1 Ae) (nth rows0 k))=(d'.toList.map fun k=>nth rows0 (k:Fin rows0.length)).map (slr true 1 Ae):=by simp [List.map_map,Function.comp_def]
   have g2:(d'.toList.map fun k:Fin rows0.length=>k.val).map (fun k=>if h:k<rows0.length then enc ⟨k,h⟩ else undef)=d'.toList.map enc:=by
    rw [List.map_map]
    exact List.map_congr_left fun k _=>by simp
   have g3:(d'.toList.map fun k:Fin rows0.length=>k.val).map (fun k=>fps.getD k [])=d'.toList.map fun k=>fps.getD (k:Fin rows0.length) []:=by simp [List.map_map,Function.comp_def]
   rw [g1,g2,g3] at this
   exact this
  have hpf2:(d'.toList.map fun k=>fps.getD (k:Fin rows0.length) []).flatten.Perm fps.flatten:=by
   have h1:(d.toList.map fun k=>fps.getD (k:Fin rows0.length) [])=fps:=by
    subst hd
    apply List.ext_getElem
    ·simp [hfl]
    ·intro k h1 h2
     simp [List.getD_eq_getElem?_getD,h2]
   have:=(hperm.map fun k=>fps.getD (k:Fin rows0.length) []).flatten
   rwa [h1] at this
  have hrow:=hW.row (arr:=arr) (e:=e) (fr:=(0,0)) (by rw [hold b hbl];exact hb)
  refine Axp (g:=b::(d'.toList.map fun k=>fps.getD (k:Fin rows0.length) []).flatten) (hpf2.cons b) hnd1 ?_ (hcap hW) ⟨hW.rest.1.trans (by rw [hg];rfl),hW.rest.2.1.trans (by rw [hg];rfl),hW.rest.2.2.trans (by rw [hg];rfl)⟩ (by have:=hW.le;omega) fun z hz hn=> ?_
  ·have hh:Hdr ((slr true 1 (slr true 1 Ae)) (d'.toList.map fun k=>nth rows0 (k:Fin rows0.length))) (.slice (some ⟨b,0,none⟩) rows0.length cap) true b 0 (cap*1) (Bg ((d'.toList.map fun k=>nth rows0 (k:Fin rows0.length)).map (slr true 1 Ae))):=by
    have:=Hdr.sl true 1 ((d'.toList.map fun k=>nth rows0 (k:Fin rows0.length)).map (slr true 1 Ae)) b 0 cap (fun x hx=>by obtain ⟨r,_,rfl⟩:=List.mem_map.1 hx;rfl) (by simpa [hds'] using hk.1)
    have el:((d'.toList.map fun k=>nth rows0 (k:Fin rows0.length)).map (slr true 1 Ae)).length=rows0.length:=by simp [hds']
    rwa [el] at this
   have:=RdL.oblk (w:=w') (O:=O) hh hrow hOb (by unfold putCells;simpa using hk.2) (by
    have el:(Bg ((d'.toList.map fun k=>nth rows0 (k:Fin rows0.length)).map (slr true 1 Ae))).length=d'.size:=by rw [Ael];simp
    rw [el,Ak1 _ (by omega),Ael];exact hgat) .nil
   simpa using this
  ·rw [hW.heap (by omega) (fun e=>hn (by rw [e];simp)),hold z hz]
end Go.Proofs.YtjcekpmojnnmbaaGreat.Ax
