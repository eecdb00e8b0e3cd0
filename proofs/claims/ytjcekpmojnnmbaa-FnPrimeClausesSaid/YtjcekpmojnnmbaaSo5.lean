/-
 Sorting rows, at this program.
-/
import Derived.Test.YtjcekpmojnnmbaaSo4
import Derived.Test.YtjcekpmojnnmbaaCode
import Derived.Test.YtjcekpmojnnmbaaProg
namespace Go.Proofs.Ytjcekpmojnnmbaa.Ax
open Go Go.Proofs Go.Shelf Go.RowKit Go.Lib Go.Sort
set_option maxRecDepth 100000
def Aqw : Go.Shelf.Ren := ⟨fun | 8 => 77 | 13 => 79 | 14 => 80 | 16 => 82 | 15 => 81 | 29 => 92 | 30 => 93 | 42 => 94 | 49 => 95 | n => n, fun | 20 => 20 | 26 => 96 | 36 => 100 | 0 => 0 | 38 => 102 | 42 => 106 | 3 => 3 | 4 => 4 | 47 => 93 | 17 => 17 | 33 => 97 | 34 => 98 | 89 => 126 | 12 => 12 | 56 => 118 | 82 => 119 | 5 => 5 | 83 => 120 | 84 => 121 | 85 => 122 | 86 => 123 | 87 => 124 | n => n, fun | n => n⟩
theorem At7 : Go.Proofs.LaysGt.n8 Try.prog Aqw where
 mixed := by kernel_rfl
 f8 := Try.func77.trans (congrArg some (by kernel_rfl))
 f13 := Try.func79.trans (congrArg some (by kernel_rfl))
 f14 := Try.func80.trans (congrArg some (by kernel_rfl))
 f15 := Try.func81.trans (congrArg some (by kernel_rfl))
 f16 := Try.func82.trans (congrArg some (by kernel_rfl))
 f29 := Try.func92.trans (congrArg some (by kernel_rfl))
 f30 := Try.func93.trans (congrArg some (by kernel_rfl))
 f42 := Try.func94.trans (congrArg some (by kernel_rfl))
 f49 := Try.func95.trans (congrArg some (by kernel_rfl))
 t0 := Try.underlying0
 a0 := Try.isAgg0
 z0 := Try.sizeOf0
 v0 := Try.zeroValue0
 i0 := by kernel_rfl
 t3 := Try.underlying3
 a3 := Try.isAgg3
 z3 := Try.sizeOf3
 v3 := Try.zeroValue3
 i3 := by kernel_rfl
 t4 := Try.underlying4
 a4 := Try.isAgg4
 z4 := Try.sizeOf4
 v4 := Try.zeroValue4
 i4 := by kernel_rfl
 t5 := Try.underlying5
 a5 := Try.isAgg5
 z5 := Try.sizeOf5
 v5 := Try.zeroValue5
 i5 := by kernel_rfl
 t12 := Try.underlying12
 a12 := Try.isAgg12
 z12 := Try.sizeOf12
 v12 := Try.zeroValue12
 i12 := by kernel_rfl
 t17 := Try.underlying17
 a17 := Try.isAgg17
 z17 := Try.sizeOf17
 v17 := Try.zeroValue17
 i17 := by kernel_rfl
 t20 := Try.underlying20
 a20 := Try.isAgg20
 z20 := Try.sizeOf20
 v20 := Try.zeroValue20
 i20 := by kernel_rfl
 t26 := Try.underlying96
 a26 := Try.isAgg96
 z26 := Try.sizeOf96
 v26 := Try.zeroValue96
 i26 := by kernel_rfl
 t33 := Try.underlying97
 a33 := Try.isAgg97
 z33 := Try.sizeOf97
 v33 := Try.zeroValue97
 i33 := by kernel_rfl
 t34 := Try.underlying98
 a34 := Try.isAgg98
 z34 := Try.sizeOf98
 v34 := Try.zeroValue98
 i34 := by kernel_rfl
 t36 := Try.underlying100
 a36 := Try.isAgg100
 z36 := Try.sizeOf100
 v36 := Try.zeroValue100
 i36 := by kernel_rfl
 t38 := Try.underlying102
 a38 := Try.isAgg102
 z38 := Try.sizeOf102
 v38 := Try.zeroValue102
 i38 := by kernel_rfl
 t42 := Try.underlying106
 a42 := Try.isAgg106
 z42 := Try.sizeOf106
 v42 := Try.zeroValue106
 i42 := by kernel_rfl
 t47 := Try.underlying93
 a47 := Try.isAgg93
 z47 := Try.sizeOf93
 v47 := Try.zeroValue93
 i47 := by kernel_rfl
 t56 := Try.underlying118
 a56 := Try.isAgg118
 z56 := Try.sizeOf118
 v56 := Try.zeroValue118
 i56 := by kernel_rfl
 t82 := Try.underlying119
 a82 := Try.isAgg119
 z82 := Try.sizeOf119
 v82 := Try.zeroValue119
 i82 := by kernel_rfl
 t83 := Try.underlying120
 a83 := Try.isAgg120
 z83 := Try.sizeOf120
 v83 := Try.zeroValue120
 i83 := by kernel_rfl
 t84 := Try.underlying121
 a84 := Try.isAgg121
 z84 := Try.sizeOf121
 v84 := Try.zeroValue121
 i84 := by kernel_rfl
 t85 := Try.underlying122
 a85 := Try.isAgg122
 z85 := Try.sizeOf122
 v85 := Try.zeroValue122
 i85 := by kernel_rfl
 t86 := Try.underlying123
 a86 := Try.isAgg123
 z86 := Try.sizeOf123
 v86 := Try.zeroValue123
 i86 := by kernel_rfl
 t87 := Try.underlying124
 a87 := Try.isAgg124
 z87 := Try.sizeOf124
 v87 := Try.zeroValue124
 i87 := by kernel_rfl
 t89 := Try.underlying126
 a89 := Try.isAgg126
 z89 := Try.sizeOf126
 v89 := Try.zeroValue126
 i89 := by kernel_rfl
noncomputable def soT : TypeInfo := (Try.prog.info? 24).get (by kernel_rfl)
noncomputable def soE : TypeInfo := (Try.prog.info? 40).get (by kernel_rfl)
theorem soK (n : Nat) (h2 : 2 ≤ n) : Lib.swapperK n soE 23 = 9 := by
 have a : soE.hasPointers = true := by kernel_rfl
 have b : soE.bytes = 24 := by kernel_rfl
 have c : (n == 0) = false := by simp; omega
 have d : (n == 1) = false := by simp; omega
 simp [Lib.swapperK, a, b, c, d]
theorem A30 : Lib.swapperK 0 soE 23 = 1 := by simp [Lib.swapperK]
theorem A3z : Lib.swapperK 1 soE 23 = 2 := by simp [Lib.swapperK]
theorem Adm {rows0 : List (List Int)} {order0 : List Int → List Int → Option Int} {f_order0 : Nat} {c_order0 : List V}
  (h_order0 : ∀ w_0 w_1 v, order0 w_0 w_1 = some v → Ret Try.prog f_order0 ([(slr false 1 Ae) w_0, (slr false 1 Ae) w_1] ++ fzL c_order0) (Ae v))
  {i j : Int} (hi : 0 ≤ i ∧ i < rows0.length) (hj : 0 ≤ j ∧ j < rows0.length) {c : Int} (h : order0 (nth rows0 i.toNat) (nth rows0 j.toNat) = some c) :
  Ret Try.prog R6 [Ae i, Ae j, V.ptr false (V.fclo f_order0 c_order0), V.ptr false ((slr false 1 (slr false 1 Ae)) rows0)] (V.bool (decide (c < 0))) := by
 refine A7 Ab9 (Nat.le_of_ble_eq_true rfl) ?_
 conv => whnf
 refine Len.map ?_
 refine ⟨hi, ?_⟩
 conv => whnf
 refine Elem.o (by omega) ?_
 conv => whnf
 refine Len.map ?_
 refine ⟨hj, ?_⟩
 conv => whnf
 refine Elem.o (by omega) ?_
 conv => whnf
 refine CloQ.o (oo := order0 (nth rows0 i.toNat) (nth rows0 j.toNat)) (k := fun r => some r) (v := c) Ae (by first | rfl | simp only [Aa, V.fz, fzL, V.up, upL, Ab, Ac, Ad, slr, List.cons_append, List.nil_append]) (fun _ => by first | rfl | simp [El, V.noFz]) (by rw [h]; rfl) (fun r h => h_order0 _ _ _ h) (fun r hr => ?_)
 cases hr
 conv => whnf
 rfl
theorem Ao2 {xs : List (List Int)} {i : Nat} (h : i < xs.length) : xs[i] = nth xs i := by
 unfold nth; simp [h]
theorem Aex (rows : List (List Int)) : Bh (rows.map (slr true 1 Ae)) = rows.map (slr true 1 Ae) := by
 induction rows with
 | nil => rfl
 | cons x r ih => simp only [List.map_cons, Bh, ih]; rfl
theorem Ajh (rows : List (List Int)) : Bh (rows.map (slr false 1 Ae)) = rows.map (slr false 1 Ae) := by
 induction rows with
 | nil => rfl
 | cons x r ih => simp only [List.map_cons, Bh, ih]; rfl
theorem Auu (rows : List (List Int)) : A8 (rows.map (slr false 1 Ae)) = false := by
 induction rows with
 | nil => rfl
 | cons x r ih => simp only [List.map_cons, A8, ih]; rfl
theorem Awk {w : World} {O : Nat → Prop} {r : List Int} {v : Value} {g : List Nat} (h : RdL w O [(slr true 1 Ae) r] [v] g) : ∃ p n c, v = .slice p n c := by
 generalize hx : (slr true 1 Ae) r = x at h
 cases h with
 | leaf hl t =>
   cases hl <;> first | exact ⟨_, _, _, rfl⟩ | cases hx
 | grp hg s t => cases hg <;> cases hx
 | fblk hh hc hO s t => cases hh <;> cases hx
 | mpf => cases hx
 | mpo => cases hx
 | oblk hh hb hO hk s t =>
   cases hh with
   | sl => exact ⟨_, _, _, rfl⟩
   | ptr => cases hx
set_option maxHeartbeats 2000000 in
set_option maxRecDepth 100000 in
theorem Atq {p : Option Addr} {n c f : Nat} {us : Array Value} {w : World} {R : World → Prop}
  (hS : Calls Try.prog 77 #[.iface 24 (.slice p n c), .func (.func 78) #[] #[.pointer (some ⟨w.heap.size + 1, 0, none⟩), .pointer (some ⟨w.heap.size, 0, none⟩)]] ((w.alloc (.cells #[.slice p n c] 24)).alloc (.cells #[.func (.func f) #[] us] 78)) fun e w' => e = .returned (.tuple #[]) ∧ R w') :
  Calls Try.prog 72 #[.slice p n c, .func (.func f) #[] us] w fun e w' => e = .returned (.tuple #[]) ∧ R w' := by
 go_enter Try.func72, Try.ntmps72
 go_wp2_with (go_at_call 77; refine hS.mono ?_; rintro e w' ⟨rfl, hR⟩)
 go_end0
 exact ⟨rfl, hR⟩
theorem Aua {w w' : World} {O : Nat → Prop} {xs vs fp} (h : RdL w O xs vs fp) (hs : ∀ b, b < w.heap.size → w'.heap[b]? = w.heap[b]?) : RdL w' O xs vs fp :=
 h.frame (fun b hb => ⟨hs b (h.fpO b hb).2, (h.fpO b hb).1⟩) fun b hO hb => ⟨hs b hb, hO⟩
theorem Aw7 {f : Nat} {w w' : World} {O : Nat → Prop} {v1 : Value} {us : List Value} {cs : List V} {ys : List (List Int)} {f1 g : List Nat} (hp : g.Perm f1) (hnd : f1.Nodup)
  (hr : RdL w' O [(slr true 1 (slr true 1 Ae)) ys] [v1] g) (hc : RdL w' O (fzL cs) us []) (hos : w'.os = w.os ∧ w'.tape = w.tape ∧ w'.output = w.output) (hsz : w.heap.size ≤ w'.heap.size)
  (hs : ∀ b, b < w.heap.size → b ∉ f1 → w'.heap[b]? = w.heap[b]?) :
  ∃ res outs rv O' fpr fpo, (res = V.tup [] ∧ outs[0]? = some ((slr true 1 (slr true 1 Ae)) ys)) ∧ (Ending.returned (.tuple #[])) = .returned rv ∧ RdL w' O' [res] [rv] fpr ∧ RdL w' O' outs [v1, .func (.func f) #[] us.toArray] fpo ∧ (fpr ++ fpo).Nodup ∧
    Mv w O (· ∈ f1 ++ []) w' O' (· ∈ fpr ++ fpo) := by
 refine ⟨V.tup [], [(slr true 1 (slr true 1 Ae)) ys, V.fclo f cs], .tuple #[], O, [], g, ⟨rfl, rfl⟩, rfl, .grp (fp1 := []) (fp2 := []) (.tup [] []) .nil .nil, ?_, by simpa using hp.nodup_iff.2 hnd, ⟨hos.1, hos.2.1, hos.2.2, hsz, fun b hb hS => ⟨hs b hb (by simpa using hS), Iff.rfl⟩, fun b hb => .inl (by simpa using hp.mem_iff.1 (by simpa using hb))⟩⟩
 have h2 : RdL w' O [V.fclo f cs] [.func (.func f) #[] us.toArray] [] := .grp (fp1 := []) (fp2 := []) (.fclo _ _ _ _ rfl) hc .nil
 have := RdL.cons_join hr h2
 simpa using this
set_option maxHeartbeats 2000000 in
set_option maxRecDepth 100000 in
theorem Af7 {rows0 : List (List Int)} {order0 : List Int → List Int → Option Int} {f_order0 : Nat} {c_order0 : List V}
  (h_order0 : ∀ w_0 w_1 v, order0 w_0 w_1 = some v → Ret Try.prog f_order0 ([(slr false 1 Ae) w_0, (slr false 1 Ae) w_1] ++ fzL c_order0) (Ae v))
  {v : Unit × List (List Int)} (h : F2 rows0 order0 = some v) : Sr Try.prog V7 [(slr true 1 (slr true 1 Ae)) rows0, V.fclo f_order0 c_order0] (V.tup []) 0 ((slr true 1 (slr true 1 Ae)) v.2) := by
 unfold F2 at h
 split at h
 case isFalse => cases h
 rename_i hx
 obtain ⟨hn, hx2⟩ := hx
 obtain ⟨hO, hone, hcmp⟩ := Classical.choose_spec hx2
 generalize Classical.choose hx2 = lt at hO hone hcmp h
 cases h
 intro w O vals fp hr hnd
 obtain ⟨v1, vs2, f1, f2, rfl, rfl, r1, r2'⟩ := hr.cons_split
 obtain ⟨v2, vs3, f2a, f3, rfl, rfl, r2, r3⟩ := r2'.cons_split
 cases r3
 have e2 : f2a = [] := r2.noOwn rfl
 subst e2
 obtain ⟨us, rfl, rus⟩ := Auh r2
 have hnd1 : f1.Nodup := by simpa using hnd
 refine ⟨⟨_, _, Try.func72, by kernel_rfl, rfl⟩, ?_⟩
 by_cases hlen : rows0.length ≤ 1
 ·-- nothing to sort
  obtain ⟨p, n, c, rfl, hnl⟩ : ∃ p n c, v1 = .slice p n c ∧ n ≤ 1 := by
   generalize hx : (slr true 1 (slr true 1 Ae)) rows0 = x at r1
   cases r1 with
   | leaf hl t =>
     cases hl <;> first | exact ⟨_, _, _, rfl, Nat.zero_le _⟩ | cases hx
   | grp hg s t => cases hg <;> cases hx
   | fblk hh hc hO s t => cases hh <;> cases hx
   | mpf => cases hx
   | mpo => cases hx
   | oblk hh hb hO hk s t =>
     cases hh with
     | sl => cases hx; exact ⟨_, _, _, rfl, by simpa using hlen⟩
     | ptr => cases hx
  have hK : ∃ ff, Try.prog.funcs.findIdx? (·.name == "internal/reflectlite" ++ ".Swapper$" ++ toString (Lib.swapperK n soE 23)) = some ff := by
   have : n = 0 ∨ n = 1 := by omega
   rcases this with rfl | rfl
   ·exact ⟨83, by rw [A30]; kernel_rfl⟩
   ·exact ⟨84, by rw [A3z]; kernel_rfl⟩
  obtain ⟨ff, hff⟩ := hK
  have hS := fun w : World => Any.sort_SliceStable_tiny At7 24 40 soT soE (by kernel_rfl) (by kernel_rfl) (by kernel_rfl) (by kernel_rfl) 23 (fun _ => by kernel_rfl) p n c hnl ff hff (.func 78) #[] #[.pointer (some ⟨w.heap.size + 1, 0, none⟩), .pointer (some ⟨w.heap.size, 0, none⟩)] ((w.alloc (.cells #[.slice p n c] 24)).alloc (.cells #[.func (.func f_order0) #[] us.toArray] 78))
  have e : (rows0.mergeSort fun x y => !lt y x) = rows0 := by
   match rows0, hlen with
   | [], _ => simp
   | [x], _ => simp
  rw [e]
  refine (Atq (hS w)).mono ?_
  rintro ee w' ⟨rfl, os, rfl⟩
  have hs : ∀ b, b < w.heap.size → (grow ((w.alloc (.cells #[.slice p n c] 24)).alloc (.cells #[.func (.func f_order0) #[] us.toArray] 78)) os).heap[b]? = w.heap[b]? := fun b hb => by
   rw [alloc_eq_grow, alloc_eq_grow, grow_grow, grow_grow]
   exact heap_grow_old w _ hb
  exact Aw7 (List.Perm.refl _) hnd1 (Aua r1 hs) (Aua rus hs) ⟨rfl, rfl, rfl⟩ (by rw [alloc_eq_grow, alloc_eq_grow, grow_grow, grow_grow, size_grow]; omega) fun b hb _ => hs b hb
 ·have hn2 : 2 ≤ rows0.length := by omega
  obtain ⟨b, cap, arr, e, fp1, rfl, rfl, hb, hOb, hk, hs⟩ : ∃ b cap arr e fp1, v1 = .slice (some ⟨b, 0, none⟩) rows0.length cap ∧ f1 = b :: fp1 ∧ w.heap[b]? = some (.cells arr e (0, 0)) ∧ O b ∧ (rows0.length ≤ cap ∧ cap * 1 ≤ arr.size) ∧ RdL w O (rows0.map (slr true 1 Ae)) (arr.toList.take rows0.length) fp1 := by
   generalize hx : (slr true 1 (slr true 1 Ae)) rows0 = x at r1
   cases r1 with
   | leaf hl t =>
     cases hl <;> first
      | cases hx
      | (have := congrArg (fun z => match z with | V.sl _ _ l => l.length | _ => 0) hx
         simp at this
         subst this
         simp at hn2)
   | grp hg s t => cases hg <;> cases hx
   | fblk hh hc hO s t => cases hh <;> cases hx
   | mpf => cases hx
   | mpo => cases hx
   | @oblk _ _ b0 k0 ch0 arr0 e0 g1 _ _ g2 hh hb hO hk s t =>
     cases hh with
     | sl _ m xs _ _ cap hm hcap =>
       cases hx
       cases t
       rw [Aex] at s
       exact ⟨b0, cap, arr0, e0, g1, by simp, by simp, hb, hO, ⟨by simpa using hcap, hk⟩, by simpa using s⟩
     | ptr => cases hx
  have hbl : b < w.heap.size := (Array.getElem?_eq_some_iff.1 hb).1
  obtain ⟨fps, hfl, rfl, hpc⟩ := hs.pieces
  rw [List.length_map] at hfl hpc
  have hbn : b ∉ fps.flatten := (List.nodup_cons.1 hnd1).1
  have hpos : 0 < rows0.length := by omega
  letI : Inhabited (Fin rows0.length) := ⟨⟨0, hpos⟩⟩
  have pc : ∀ k : Fin rows0.length, RdL w O [(slr true 1 Ae) (nth rows0 k)] [(arr.toList.take rows0.length).getD k undef] (fps.getD k []) := fun k => by
   have := hpc k k.2
   rwa [List.getD_eq_getElem?_getD, List.getElem?_map, List.getElem?_eq_getElem k.2, show rows0[(k : Nat)] = nth rows0 k from Ao2 k.2] at this
  have hpf : ∀ k : Fin rows0.length, b ∉ fps.getD k [] := fun k hm => hbn (by
   rw [List.getD_eq_getElem?_getD, List.getElem?_eq_getElem (by rw [hfl]; exact k.2)] at hm
   exact List.mem_flatten.2 ⟨_, List.getElem_mem _, hm⟩)
  generalize hEnc : (fun k : Fin rows0.length => (arr.toList.take rows0.length).getD k undef) = enc
  have hE : ∀ k, (arr.toList.take rows0.length).getD (k : Fin rows0.length) undef = enc k := fun k => by rw [← hEnc]
  have hE1 : ∀ k, (enc k).oneCell' = true := fun k => by
   have := pc k
   rw [hE] at this
   obtain ⟨p, n, c, e⟩ := Awk this
   rw [e]; rfl
  have hcl : ∀ k : Fin rows0.length, w.cell? ⟨b, k, none⟩ = some (enc k) := fun k => by
   have h1 : (k : Nat) < arr.size := by have := k.2; omega
   rw [← hE]
   simp [World.cell?, hb, h1, List.getD_eq_getElem?_getD]
  generalize hd : (Array.ofFn fun k : Fin rows0.length => k) = d
  have hds : d.size = rows0.length := by rw [← hd]; simp
  have hdj : ∀ j (hj : j < rows0.length), d[j]! = ⟨j, hj⟩ := fun j hj => by
   rw [getElem!_pos d j (by omega)]; subst hd; simp
  generalize hw1 : (w.alloc (.cells #[.slice (some ⟨b, 0, none⟩) rows0.length cap] 24)).alloc (.cells #[.func (.func f_order0) #[] us.toArray] 78) = w1
  have hg : w1 = grow w #[.cells #[.slice (some ⟨b, 0, none⟩) rows0.length cap] 24, .cells #[.func (.func f_order0) #[] us.toArray] 78] := by
   rw [← hw1, alloc_eq_grow, alloc_eq_grow, grow_grow]; rfl
  have hw1s : w1.heap.size = w.heap.size + 2 := by rw [hg, size_grow]; rfl
  have hold : ∀ z, z < w.heap.size → w1.heap[z]? = w.heap[z]? := fun z hz => by rw [hg]; exact heap_grow_old w _ hz
  have hbox0 : w1.cell? ⟨w.heap.size, 0, none⟩ = some (.slice (some ⟨b, 0, none⟩) rows0.length cap) := by
   rw [hg]; simp [World.cell?, grow]
  have hbox1 : w1.cell? ⟨w.heap.size + 1, 0, none⟩ = some (.func (.func f_order0) #[] us.toArray) := by
   rw [hg]; simp [World.cell?, grow]
  have hH : Holds enc w1 b 0 d := fun j hj => by
   rw [hds] at hj
   refine ⟨?_, ?_⟩
   ·rw [hdj j hj, Ub (hold b hbl), Nat.zero_add]
    exact hcl ⟨j, hj⟩
   ·simp [World.frozen?, hold b hbl, hb]
  have piece : ∀ {W : World} {dk : Array (Fin rows0.length)}, SX enc w1 b 0 dk W → ∀ k : Fin rows0.length, RdL W O [(slr true 1 Ae) (nth rows0 k)] [enc k] (fps.getD k []) := fun {W dk} hW k => by
   have hp := pc k
   rw [hE] at hp
   have keep : ∀ z, z < w.heap.size → z ≠ b → W.heap[z]? = w.heap[z]? := fun z hz hzb => by
    rw [hW.heap (by omega) hzb, hold z hz]
   exact hp.frame (fun z hz => ⟨keep z (hp.fpO z hz).2 (fun e => hpf k (by rw [← e]; exact hz)), (hp.fpO z hz).1⟩) fun z hO hz => ⟨keep z hz (fun e => hO (by rw [e]; exact hOb)), hO⟩
  have hcap : ∀ {W : World} {dk : Array (Fin rows0.length)}, SX enc w1 b 0 dk W → RdL W O (fzL c_order0) us [] := fun {W dk} hW =>
   rus.frame (by simp) fun z hO hz => ⟨by rw [hW.heap (by omega) (fun e => hO (by rw [e]; exact hOb)), hold z hz], hO⟩
  have hless : Afm Try.prog 78 #[.pointer (some ⟨w.heap.size + 1, 0, none⟩), .pointer (some ⟨w.heap.size, 0, none⟩)] enc (fun x y => lt (nth rows0 x) (nth rows0 y)) b 0 d.size w1 := by
   intro W dk hW hsz i j hi hj
   rw [hds] at hsz hi hj
   have hfr : ∀ k : Fin rows0.length, RdL W (fun _ => False) [(slr false 1 Ae) (nth rows0 k)] [enc k] [] := fun k => by
    have := (piece hW k).fz (O2 := fun _ => False) (by simp) (by simp)
    simpa [fzL, Ac, Ad, slr] using this
   have hrows : RdL W (fun _ => False) ((dk.toList.map fun k => nth rows0 (k : Fin rows0.length)).map (slr false 1 Ae)) (dk.toList.map enc) [] := by
    have := RdL.gather (w := W) (O := fun _ => False) (X := fun k => (slr false 1 Ae) (nth rows0 k)) (U := fun k => if h : k < rows0.length then enc ⟨k, h⟩ else undef) (F := fun _ => []) (dk.toList.map fun k : Fin rows0.length => k.val) (fun k hk => by
     obtain ⟨q, _, rfl⟩ := List.mem_map.1 hk
     simpa using hfr q)
    have g1 : (dk.toList.map fun k : Fin rows0.length => k.val).map (fun k => (slr false 1 Ae) (nth rows0 k)) = (dk.toList.map fun k => nth rows0 (k : Fin rows0.length)).map (slr false 1 Ae) := by simp [List.map_map, Function.comp_def]
    have g2 : (dk.toList.map fun k : Fin rows0.length => k.val).map (fun k => if h : k < rows0.length then enc ⟨k, h⟩ else undef) = dk.toList.map enc := by
     rw [List.map_map]
     exact List.map_congr_left fun k _ => by simp
    have g3 : ((dk.toList.map fun k : Fin rows0.length => k.val).map fun _ => ([] : List Nat)).flatten = [] := by simp
    rw [g1, g2, g3] at this
    exact this
   generalize hrw : (dk.toList.map fun k => nth rows0 (k : Fin rows0.length)) = rows1 at hrows
   have hl1 : rows1.length = rows0.length := by rw [← hrw]; simpa using hsz
   have hn1 : ∀ k (hk : k < rows0.length), nth rows1 k = nth rows0 (dk[k]! : Fin rows0.length) := fun k hk => by
    rw [← Ao2 (by omega)]
    subst hrw
    simp [getElem!_pos dk k (by omega)]
   have hm : ∀ k : Fin rows0.length, nth rows0 k ∈ rows0 := fun k => by rw [← Ao2 k.2]; exact List.getElem_mem _
   obtain ⟨cc, h1, h2⟩ := hcmp (nth rows0 dk[i]!) (hm _) (nth rows0 dk[j]!) (hm _)
   have hbx : ∀ z v, w.heap.size ≤ z → z < w1.heap.size → w1.cell? ⟨z, 0, none⟩ = some v → W.cell? ⟨z, 0, none⟩ = some v := fun z v hz1 hz2 hv => by
    rw [Ub (hW.heap hz2 (by omega))]; exact hv
   have hrd : RdL W (fun _ => False) [Ae (i : Int), Ae (j : Int), V.ptr false (V.fclo f_order0 c_order0), V.ptr false ((slr false 1 (slr false 1 Ae)) rows1)] [.int .i64 i, .int .i64 j, .pointer (some ⟨w.heap.size + 1, 0, none⟩), .pointer (some ⟨w.heap.size, 0, none⟩)] [] := by
    refine .leaf (.int _ _) (.leaf (.int _ _) (.fblk (vch := [.func (.func f_order0) #[] us.toArray]) (.ptr false _ _ 0) ?_ ⟨.inr id, rfl⟩ ?_ (.fblk (vch := [.slice (some ⟨b, 0, none⟩) rows0.length cap]) (.ptr false _ _ 0) ?_ ⟨.inr id, rfl⟩ ?_ .nil)))
    ·intro k hk
     have : k = 0 := by simpa using hk
     subst this
     exact hbx _ _ (by omega) (by omega) hbox1
    ·exact .grp (fp1 := []) (fp2 := []) (.fclo _ _ _ _ rfl) ((hcap hW).frame (O' := fun _ => False) (by simp) (fun _ _ _ => ⟨rfl, id⟩)) .nil
    ·intro k hk
     have : k = 0 := by simpa using hk
     subst this
     exact hbx _ _ (by omega) (by omega) hbox0
    ·have hh : Hdr ((slr false 1 (slr false 1 Ae)) rows1) (.slice (some ⟨b, 0, none⟩) rows0.length cap) false b 0 (cap * 1) (Bh (rows1.map (slr false 1 Ae))) := by
      have := Hdr.sl false 1 (rows1.map (slr false 1 Ae)) b 0 cap (fun x hx => by obtain ⟨r, _, rfl⟩ := List.mem_map.1 hx; rfl) (by simpa [hl1] using hk.1)
      rwa [List.length_map, hl1] at this
     refine .fblk (vch := dk.toList.map enc) hh ?_ ⟨.inr id, ?_⟩ ?_ .nil
     ·intro k hk'
      have hk2 : k < rows0.length := by simpa [hsz] using hk'
      have := (hW.holds (by omega) hH (by rw [hds]; exact hsz)) k (by omega)
      rw [this.1]
      simp [hk2, hsz]
     ·rw [Ajh]; exact Auu _
     ·rw [Ajh]; exact hrows
   obtain ⟨-, hcall⟩ := (Adm h_order0 (rows0 := rows1) (i := (i : Int)) (j := (j : Int)) ⟨by omega, by omega⟩ ⟨by omega, by omega⟩ (c := cc) (by rw [Int.toNat_natCast, Int.toNat_natCast, hn1 i hi, hn1 j hj]; exact h1)) W (fun _ => False) _ [] hrd List.nodup_nil
   refine Calls.mono (R := _) hcall ?_
   rintro ee w' ⟨res, outs, rv, O', fpr, fpo, rfl, rfl, hres, _, _, hmv⟩
   refine ⟨?_, hmv.same_world⟩
   show Ending.returned rv = .returned (.bool (lt (nth rows0 dk[i]!) (nth rows0 dk[j]!)))
   rw [h2]
   cases hres with
   | leaf hl t => cases hl; rfl
   | grp hg s t => cases hg
   | fblk hh hc hO s t => cases hh
   | oblk hh hb hO hk s t => cases hh
  have hOr : SWO fun x y : Fin rows0.length => lt (nth rows0 x) (nth rows0 y) := ⟨fun x => hO.irrefl _, fun x y z h1 h2 => hO.trans _ _ _ h1 h2, fun x y z h1 h2 => hO.ntrans _ _ _ h1 h2⟩
  have hS := Alf At7 24 40 soT soE (by kernel_rfl) (by kernel_rfl) (by kernel_rfl) (by kernel_rfl) 23 (fun _ => by kernel_rfl) (by kernel_rfl) (fun _ => by kernel_rfl) enc hE1 _ hOr 78 _ (enters_of Try.func78 (by kernel_rfl) rfl) b 0 cap d (by omega) (by omega) 91 (by rw [soK _ (by omega)]; kernel_rfl) false
   (fun args W => run_callFunc_extern Try.func91 (by kernel_rfl) (by kernel_rfl) (by kernel_rfl) (e := Extern.ReflectliteSwapper.swap false) (by kernel_rfl) args W) w1 hless hH (by omega)
  rw [hds] at hS
  subst hw1
  refine (Atq hS).mono ?_
  rintro ee w' ⟨rfl, d', p1, p2, hW⟩
  have hds' : d'.size = rows0.length := p1.1.trans hds
  have hperm : d'.toList.Perm d.toList := by
   have a1 : d'.extract 0 rows0.length = d' := by
    have h := Array.extract_size (xs := d')
    rw [hds'] at h; exact h
   have a2 : d.extract 0 rows0.length = d := by
    have h := Array.extract_size (xs := d)
    rw [hds] at h; exact h
   have := p1.2.2
   rwa [a1, a2] at this
  have hdl : d.toList.map (fun k => nth rows0 (k : Fin rows0.length)) = rows0 := by
   subst hd
   apply List.ext_getElem
   ·simp
   ·intro k h1 h2
    simp [Ao2 h2]
  have hys : d'.toList.map (fun k => nth rows0 (k : Fin rows0.length)) = rows0.mergeSort fun x y => !lt y x := by
   have hp : (d'.toList.map fun k => nth rows0 (k : Fin rows0.length)).Perm rows0 := by
    have := hperm.map fun k => nth rows0 (k : Fin rows0.length)
    rwa [hdl] at this
   refine List.Perm.eq_of_pairwise (le := fun a b => lt b a = false) (fun a b _ _ h h' => hone a b h' h) ?_ (Rh.sorted hO rows0) (hp.trans (List.mergeSort_perm _ _).symm)
   rw [List.pairwise_map, List.pairwise_iff_getElem]
   intro x y hx hy hxy
   have := p2 x y (Nat.zero_le _) hxy (by simpa [hds'] using hy)
   simp only [Array.length_toList] at hx hy
   rw [getElem!_pos d' x hx, getElem!_pos d' y hy] at this
   simpa using this
  show ∃ res outs rv O' fpr fpo, (res = V.tup [] ∧ outs[0]? = some ((slr true 1 (slr true 1 Ae)) (rows0.mergeSort fun x y => !lt y x))) ∧ _
  rw [← hys]
  have hgat : RdL w' O ((d'.toList.map fun k => nth rows0 (k : Fin rows0.length)).map (slr true 1 Ae)) (d'.toList.map enc) (d'.toList.map fun k => fps.getD (k : Fin rows0.length) []).flatten := by
   have := RdL.gather (w := w') (O := O) (X := fun k => (slr true 1 Ae) (nth rows0 k)) (U := fun k => if h : k < rows0.length then enc ⟨k, h⟩ else undef) (F := fun k => fps.getD k []) (d'.toList.map fun k : Fin rows0.length => k.val) (fun k hk => by
    obtain ⟨q, _, rfl⟩ := List.mem_map.1 hk
    simpa using piece hW q)
   have g1 : (d'.toList.map fun k : Fin rows0.length => k.val).map (fun k => (slr true 1 Ae) (nth rows0 k)) = (d'.toList.map fun k => nth rows0 (k : Fin rows0.length)).map (slr true 1 Ae) := by simp [List.map_map, Function.comp_def]
   have g2 : (d'.toList.map fun k : Fin rows0.length => k.val).map (fun k => if h : k < rows0.length then enc ⟨k, h⟩ else undef) = d'.toList.map enc := by
    rw [List.map_map]
    exact List.map_congr_left fun k _ => by simp
   have g3 : (d'.toList.map fun k : Fin rows0.length => k.val).map (fun k => fps.getD k []) = d'.toList.map fun k => fps.getD (k : Fin rows0.length) [] := by simp [List.map_map, Function.comp_def]
   rw [g1, g2, g3] at this
   exact this
  have hpf2 : (d'.toList.map fun k => fps.getD (k : Fin rows0.length) []).flatten.Perm fps.flatten := by
   have h1 : (d.toList.map fun k => fps.getD (k : Fin rows0.length) []) = fps := by
    subst hd
    apply List.ext_getElem
    ·simp [hfl]
    ·intro k h1 h2
     simp [List.getD_eq_getElem?_getD, h2]
   have := (hperm.map fun k => fps.getD (k : Fin rows0.length) []).flatten
   rwa [h1] at this
  have hrow := hW.row (arr := arr) (e := e) (fr := (0, 0)) (by rw [hold b hbl]; exact hb)
  refine Aw7 (g := b :: (d'.toList.map fun k => fps.getD (k : Fin rows0.length) []).flatten) (hpf2.cons b) hnd1 ?_ (hcap hW) ⟨hW.rest.1.trans (by rw [hg]; rfl), hW.rest.2.1.trans (by rw [hg]; rfl), hW.rest.2.2.trans (by rw [hg]; rfl)⟩ (by have := hW.le; omega) fun z hz hn => ?_
  ·have hh : Hdr ((slr true 1 (slr true 1 Ae)) (d'.toList.map fun k => nth rows0 (k : Fin rows0.length))) (.slice (some ⟨b, 0, none⟩) rows0.length cap) true b 0 (cap * 1) (Bh ((d'.toList.map fun k => nth rows0 (k : Fin rows0.length)).map (slr true 1 Ae))) := by
    have := Hdr.sl true 1 ((d'.toList.map fun k => nth rows0 (k : Fin rows0.length)).map (slr true 1 Ae)) b 0 cap (fun x hx => by obtain ⟨r, _, rfl⟩ := List.mem_map.1 hx; rfl) (by simpa [hds'] using hk.1)
    have el : ((d'.toList.map fun k => nth rows0 (k : Fin rows0.length)).map (slr true 1 Ae)).length = rows0.length := by simp [hds']
    rwa [el] at this
   have := RdL.oblk (w := w') (O := O) hh hrow hOb (by unfold putCells; simpa using hk.2) (by
    have el : (Bh ((d'.toList.map fun k => nth rows0 (k : Fin rows0.length)).map (slr true 1 Ae))).length = d'.size := by rw [Aex]; simp
    rw [el, Aj7 _ (by omega), Aex]; exact hgat) .nil
   simpa using this
  ·rw [hW.heap (by omega) (fun e => hn (by rw [e]; simp)), hold z hz]
end Go.Proofs.Ytjcekpmojnnmbaa.Ax
