/-
 Part of the proof; see the last text of the claim.
-/
import Derived.Test.YthagmdhmgailfaaGreatAx1
import Derived.IntWalk
import Derived.Great.BuildSlice
import Derived.Laws.Tables
import Derived.MapKept
import Derived.Laws.BytesString
import Derived.Laws.Slices
namespace Go.Proofs.YthagmdhmgailfaaGreat.Ax
open Go
theorem Ah7 {w O x v fp} (h : RdL w O [x] [v] fp) (hc : x.isCell = true) : v.oneCell' = true ∧ v.cells = #[v] := by
 cases h with
 | leaf hl _ => cases hl <;> first | exact ⟨rfl, rfl⟩ | simp [V.isCell] at hc
 | grp hg _ _ => cases hg <;> first | exact ⟨rfl, rfl⟩ | simp [V.isCell] at hc
 | fblk hh _ _ _ _ => cases hh <;> exact ⟨rfl, rfl⟩
 | oblk hh _ _ _ _ _ => cases hh <;> exact ⟨rfl, rfl⟩
 | mpf _ _ _ _ => exact ⟨rfl, rfl⟩
 | mpo _ _ _ _ => exact ⟨rfl, rfl⟩
theorem Ajx {w O} : ∀ {xs vs fp}, RdL w O xs vs fp → C9 xs = true → ∀ v ∈ vs, v.oneCell' = true := by
 intro xs
 induction xs with
 | nil => intro vs fp h _ v hv; cases h; simp at hv
 | cons x r ih =>
   intro vs fp h hc v hv
   simp [C9] at hc
   obtain ⟨u, us, f1, f2, rfl, rfl, h1, h2⟩ := h.cons_split
   rcases List.mem_cons.1 hv with rfl | hv
   ·exact (Ah7 h1 hc.1).1
   ·exact ih h2 (by simpa [C9] using hc.2) v hv
theorem Ym {w O x v fp} (h : RdL w O [x] [v] fp) (hc : C9 x.cells = true) : ∃ us, v.cells = us.toArray ∧ RdL w O x.cells us fp := by
 cases hx : x.isAgg with
 | true =>
   cases x <;> simp [V.isAgg] at hx
   obtain ⟨vs, rfl, hr⟩ := Afe h
   exact ⟨vs, rfl, hr⟩
 | false =>
   have e : x.cells = [x] := by cases x <;> simp [V.isAgg] at hx <;> rfl
   rw [e] at hc ⊢
   simp [C9] at hc
   exact ⟨[v], (Ah7 h hc).2, h⟩
theorem Ay5 {P : Program} {o : Oper} {σ σ' a w O gv N vals fp} {t n x x' v v'} {fi : TypeInfo} (h : Ok σ a w O gv N vals fp) (ho : o.op = .store t x' v') (hd : o.dst = none)
  (hx : Ap N x x' = true) (hv : Ap N v v' = true) (hi : P.info? t = some fi) (hsz : fi.size = n) (hs : Aps σ n x v = some σ') : Bj P o σ' a w O gv N fp := by
 simp only [Aps] at hs
 split at hs
 case h_2 => cases hs
 rename_i U σ1 hU
 split at hs
 case h_2 => cases hs
 rename_i r p c hl
 split at hs
 case h_2 => cases hs
 rename_i T hT
 split at hs
 case h_2 => cases hs
 rename_i nd hnd
 split at hs
 case isFalse => cases hs
 rename_i hcond
 simp only [Bool.and_eq_true, decide_eq_true_eq] at hcond
 obtain ⟨⟨hnode, hlen⟩, hcell⟩ := hcond
 split at hs
 case h_2 => cases hs
 rename_i nd' hnd'
 split at hs
 case h_2 => cases hs
 rename_i T' hT'
 cases hs
 obtain ⟨fp1, fpV, o1, rV, nV, dV, s1⟩ := Oo h (Am h hv) hU
 obtain ⟨us, hcells, rus⟩ := Ym rV hcell
 have hlus : us.length = n := by rw [rus.length, hlen]
 have hrel := Lu o1 (Am o1 hx) hl
 obtain ⟨T2, nd2, hdr, b, hT2, hnd2, _, hval, hblk, haddr⟩ := hrel
 rw [hT] at hT2; cases hT2
 rw [hnd] at hnd2; cases hnd2
 have hR := o1.sim.own r T hT
 obtain ⟨x0, f1, fu, f2, efp, hx0, hru, hset⟩ := ctx p hR hnd
 rw [hval] at hx0; cases hx0
 obtain ⟨b', k, arr, e, fpk, hh, hb, hO, hk, hkids, efu⟩ := (Ac6 hru hnode).resolve_left (by rintro ⟨m, _, c, _⟩; rw [c] at hblk; cases hblk)
 have hbb : b' = b := by have := hh.block; rw [hblk] at this; cases this; rfl
 subst hbb
 obtain ⟨ch', hh', hch', hlch', hcn⟩ := hh.set hnd'
 have hkl : nd.kids.length ≤ arr.size := by
  have := hkids.length
  simp at this
  omega
 have hnodup := o1.sim.nd r
 rw [efp] at hnodup
 have nd1 := List.nodup_append.1 hnodup
 have nd2' := List.nodup_append.1 nd1.2.1
 have ndu : (b' :: fpk).Nodup := by rw [← efu]; exact nd2'.1
 have hbk : b' ∉ fpk := (List.nodup_cons.1 ndu).1
 have hbr : b' ∈ fp1 r := by rw [efp, efu]; simp
 have hbV : b' ∉ fpV := fun hb' => (dV b' hb').2 ⟨r, hbr⟩
 let arr' : Array Value := (arr.toList.take c ++ us ++ arr.toList.drop (c + us.length)).toArray
 have hw' : w.setRow b' arr' = w.setRow b' arr' := rfl
 have hfit : c + 0 + us.length ≤ arr.size := by rw [hlen] at hcn; omega
 have hst := run_storeCells_at P b' c e us 0 arr w hb hfit (Ajx rus hcell)
 simp only [Nat.add_zero] at hst
 have hheap : (w.setRow b' arr').heap[b']? = some (.cells arr' e (0, 0)) := setRow_heap w b' arr arr' e (0, 0) hb
 have hother : ∀ q, q ≠ b' → (w.setRow b' arr').heap[q]? = w.heap[q]? := fun q hq => setRow_other w b' q arr' hq
 have hstill : Qw w O (w.setRow b' arr') O := fun q hq _ => ⟨hother q (fun e => hq (e ▸ hO)), hq⟩
 have hsz' : arr'.size = arr.size := by simp [arr']; omega
 obtain ⟨m, hm⟩ : ∃ m, nd.kids = nd.kids.take c ++ (m ++ nd.kids.drop (c + n)) ∧ m.length = n := by
  refine ⟨(nd.kids.drop c).take n, ?_, by simp; omega⟩
  rw [← List.drop_drop, List.take_append_drop, List.take_append_drop]
 have hkids' := hkids
 rw [hm.1] at hkids'
 obtain ⟨vl, v2, fl, f2', ev1, ef1, rl, rest⟩ := RdL.split _ hkids'
 obtain ⟨vm, vr, fm, fr, ev2, ef2, rm, rr⟩ := RdL.split _ rest
 subst ev2; subst ef2
 have hvl : vl.length = c := by rw [rl.length]; simp; omega
 have hvm : vm.length = n := by rw [rm.length, hm.2]
 have eqarr : arr.toList.take nd.kids.length = vl ++ (vm ++ vr) := by
  rw [← hm.1] at ev1; exact ev1
 have earr' : arr'.toList.take ch'.length = vl ++ (us ++ vr) := by
  have hdrop : arr.toList = vl ++ (vm ++ vr) ++ arr.toList.drop nd.kids.length := by rw [← eqarr, List.take_append_drop]
  have htk : arr.toList.take c = vl := by
   rw [hdrop, List.append_assoc, List.take_left' hvl]
  have hdr2 : arr.toList.drop (c + us.length) = vr ++ arr.toList.drop nd.kids.length := by
   rw [hlus]
   conv => lhs; rw [hdrop]
   rw [List.append_assoc, List.append_assoc, ← List.append_assoc vl vm]
   rw [List.drop_left' (by simp [hvl, hvm])]
  have hl1 : (vl ++ (us ++ vr)).length = ch'.length := by
   rw [hlch']
   have := congrArg List.length eqarr
   simp at this ⊢
   omega
  simp only [arr', htk, hdr2]
  rw [show vl ++ us ++ (vr ++ arr.toList.drop nd.kids.length) = (vl ++ (us ++ vr)) ++ arr.toList.drop nd.kids.length by simp]
  rw [← hl1, List.take_left]
 have frm : ∀ {xs vs f}, RdL w O xs vs f → b' ∉ f → RdL (w.setRow b' arr') O xs vs f := fun hr hnb =>
  hr.frame (fun q hq => ⟨hother q (fun e => hnb (e ▸ hq)), (hr.fpO q hq).1⟩) hstill
 have sub1 : ∀ q, q ∈ fl ∨ q ∈ fm ∨ q ∈ fr → q ∈ fpk := by
  intro q hq; rw [ef1]; simp; rcases hq with h | h | h <;> simp [h]
 have rl' := frm rl fun hq => hbk (sub1 _ (.inl hq))
 have rr' := frm rr fun hq => hbk (sub1 _ (.inr (.inr hq)))
 have ru' := frm rus hbV
 have hch : ch' = nd.kids.take c ++ (U.cells ++ nd.kids.drop (c + n)) := by rw [hch', splice, hlen]
 have hnode' : RdL (w.setRow b' arr') O [nd'] [hdr] (b' :: ((fl ++ (fpV ++ fr)) ++ [])) := by
  refine RdL.oblk hh' hheap hO (by omega) ?_ .nil
  rw [earr', hch]
  exact rl'.append (ru'.append rr')
 simp only [List.append_nil] at hnode'
 have hrest : ∀ q ∈ f1 ++ f2, (w.setRow b' arr').heap[q]? = w.heap[q]? ∧ O q := by
  intro q hq
  have hqr : q ∈ fp1 r := by rw [efp]; simp at hq ⊢; rcases hq with h | h <;> simp [h]
  refine ⟨hother q ?_, (o1.sim.fpO r q hqr).1⟩
  rintro rfl
  rcases List.mem_append.1 hq with h | h
  ·exact nd1.2.2 q h q (by simp [efu]) rfl
  ·exact nd2'.2.2 q (by simp [efu]) q h rfl
 have hRT := hset (w.setRow b' arr') O T' nd' _ hT' hrest hstill hnode'
 have hbu : b' ∈ fu := by rw [efu]; simp
 have hknode := (Wi hnd').2.1
 have hsim := o1.sim.turn r (p.length + 1) T T' _ hT hstill (fun s hs q hq => ⟨hother q (by rintro rfl; exact hs (o1.sim.dj s r q hq hbr)), (o1.sim.fpO s q hq).1⟩) hRT
  (by
   have hV : ∀ q ∈ fpV, q ∉ fp1 r := fun q hq hq' => (dV q hq).2 ⟨r, hq'⟩
   have n1 : ∀ q, q ∈ f1 → q ∈ fp1 r := fun q hq => by rw [efp]; simp [hq]
   have n2 : ∀ q, q ∈ f2 → q ∈ fp1 r := fun q hq => by rw [efp]; simp [hq]
   have n3 : ∀ q, q ∈ fpk → q ∈ fp1 r := fun q hq => by rw [efp, efu]; simp [hq]
   have ndk : fpk.Nodup := (List.nodup_cons.1 ndu).2
   rw [ef1] at ndk
   have k1 := List.nodup_append.1 ndk
   have k2 := List.nodup_append.1 k1.2.1
   have inner : (b' :: (fl ++ (fpV ++ fr))).Nodup := by
    refine List.nodup_cons.2 ⟨?_, ?_⟩
    ·simp only [List.mem_append, not_or]
     exact ⟨fun hq => hbk (sub1 _ (.inl hq)), hbV, fun hq => hbk (sub1 _ (.inr (.inr hq)))⟩
    ·refine List.nodup_append.2 ⟨k1.1, List.nodup_append.2 ⟨nV, k2.2.1, ?_⟩, ?_⟩
     ·rintro q hq q' hq' rfl; exact hV q hq (n3 q (sub1 q (.inr (.inr hq'))))
     ·rintro q hq q' hq' rfl
      rcases List.mem_append.1 hq' with h | h
      ·exact hV q h (n3 q (sub1 q (.inl hq)))
      ·exact k1.2.2 q hq q (by simp [h]) rfl
   have mem : ∀ q, q ∈ b' :: (fl ++ (fpV ++ fr)) → q ∈ fu ∨ q ∈ fpV := by
    intro q hq
    simp only [List.mem_cons, List.mem_append] at hq
    rcases hq with h | h | h | h
    ·exact .inl (by rw [h]; exact hbu)
    ·exact .inl (by rw [efu]; simp [sub1 q (.inl h)])
    ·exact .inr h
    ·exact .inl (by rw [efu]; simp [sub1 q (.inr (.inr h))])
   refine List.nodup_append.2 ⟨nd1.1, List.nodup_append.2 ⟨inner, nd2'.2.1, ?_⟩, ?_⟩
   ·rintro q hq q' hq' rfl
    rcases mem q hq with h | h
    ·exact nd2'.2.2 q h q hq' rfl
    ·exact hV q h (n2 q hq')
   ·rintro q hq q' hq' rfl
    rcases List.mem_append.1 hq' with h | h
    ·rcases mem q h with h | h
     ·exact nd1.2.2 q hq q (by simp [h]) rfl
     ·exact hV q h (n1 q hq)
    ·exact nd1.2.2 q hq q (by simp [h]) rfl)
  (by
   intro q hq s hs hqs
   simp only [List.mem_append, List.mem_cons] at hq
   rcases hq with h | (h | h | h | h) | h
   ·exact hs (o1.sim.dj s r q hqs (by rw [efp]; simp [h]))
   ·exact hs (o1.sim.dj s r q hqs (by rw [h]; exact hbr))
   ·exact hs (o1.sim.dj s r q hqs (by rw [efp, efu]; simp [sub1 q (.inl h)]))
   ·exact (dV q h).2 ⟨s, hqs⟩
   ·exact hs (o1.sim.dj s r q hqs (by rw [efp, efu]; simp [sub1 q (.inr (.inr h))]))
   ·exact hs (o1.sim.dj s r q hqs (by rw [efp]; simp [h])))
  (by
   intro q u v hlt hq hvq
   obtain ⟨u2, h2, h3⟩ := Apo p q hq hnd hT' (by omega) (fun _ _ => by rw [hknode]; exact hnode)
   refine ⟨u2, h2, h3, ?_⟩
   rw [Aby p q hR (o1.sim.nd r) hnd hq (by omega) hval hru (fun z hz hzn => hother z (by rintro rfl; exact hzn hbu))]
   exact hvq)
 rw [← Qr hT] at hsim
 refine ⟨undef, w.setRow b' arr', O, vals, upF fp1 r (f1 ++ ((b' :: (fl ++ (fpV ++ fr))) ++ f2)), .inr ⟨?_, rfl⟩, ?_, ?_⟩
 ·have hcs : (a.eval v').cells.size = fi.size := by rw [hcells]; simp; omega
  simp [execOp, ho, haddr, Instr.storeAt, Instr.sureAddr, storeVar, Cr hi, hcells, hlus, hsz, hst]
  simp [arr', hlus]
 ·rw [hd]
  exact ⟨hsim, o1.lo, o1.hi, o1.sz, o1.df⟩
 refine ⟨rfl, rfl, rfl, by simp [World.setRow], ?_, ?_⟩
 ·intro q _ hq
  exact ⟨hother q (by rintro rfl; exact hq (s1 _ ⟨r, hbr⟩)), .rfl⟩
 rintro q ⟨s, hs⟩
 left
 simp only [upF] at hs
 split at hs
 ·simp only [List.mem_append, List.mem_cons] at hs
  rcases hs with h | (h | h | h | h) | h
  ·exact s1 q ⟨r, by rw [efp]; simp [h]⟩
  ·exact s1 q ⟨r, by rw [h]; exact hbr⟩
  ·exact s1 q ⟨r, by rw [efp, efu]; simp [sub1 q (.inl h)]⟩
  ·exact (dV q h).1
  ·exact s1 q ⟨r, by rw [efp, efu]; simp [sub1 q (.inr (.inr h))]⟩
  exact s1 q ⟨r, by rw [efp]; simp [h]⟩
 exact s1 q ⟨s, hs⟩
end Go.Proofs.YthagmdhmgailfaaGreat.Ax
namespace Go.Proofs.YthagmdhmgailfaaGreat.Ax
open Go
theorem Au4 {P : Program} {o : Oper} {σ1 a w w' O gv N vals} {fp fp1 : Nat → List Nat} {d : Nat} {U' : V} {hv : Value} {k : Nat} {ch : List V} {arr : Array Value} {e : TypeId} {fpV : List Nat} {σ2 : St}
  (h : Ok σ1 a w O gv N vals fp1) (hd : o.dst = some d) (hN : d < N) (hs : ∀ b, Sof fp1 b → Sof fp b) (hV : ∀ b ∈ fpV, Sof fp b ∧ ¬ Sof fp1 b) (hnd : fpV.Nodup)
  (hw : w'.heap = w.heap.push (.cells arr e)) (hos : w'.os = w.os) (htape : w'.tape = w.tape) (hout : w'.output = w.output)
  (hh : Hdr U' hv true w.heap.size 0 k ch) (hk : k ≤ arr.size) (hr : RdL w O ch (arr.toList.take ch.length) fpV)
  (hrun : (execOp a.eval o).run P w = .ok (.value hv) w')
  (hext : ∀ a' vals' fp', Ok (As d (.val U') σ1) a' w' (fun b => O b ∨ b = w.heap.size) gv N vals' fp' → vals' = upF vals d hv → Ok σ2 a' w' (fun b => O b ∨ b = w.heap.size) gv N vals' fp') : Bj P o σ2 a w O gv N fp := by
 let O' : Nat → Prop := fun b => O b ∨ b = w.heap.size
 have hold : ∀ b, b < w.heap.size → w'.heap[b]? = w.heap[b]? := fun b hb => by rw [hw]; exact Ve w _ b hb
 have hstill : Qw w O w' O' := fun b hb hlt => ⟨hold b hlt, by simp [O']; exact ⟨hb, by omega⟩⟩
 have hlt1 : ∀ b, Sof fp1 b → O b ∧ b < w.heap.size := fun b ⟨s, hs⟩ => h.sim.fpO s b hs
 have o1 : Ok σ1 a w' O' gv N vals fp1 := h.world hstill fun b hb => ⟨hold b (hlt1 b hb).2, .inl (hlt1 b hb).1⟩
 have hVlt : ∀ b ∈ fpV, O b ∧ b < w.heap.size := hr.fpO
 have hr' : RdL w' O' ch (arr.toList.take ch.length) fpV := hr.frame (fun b hb => ⟨hold b (hVlt b hb).2, .inl (hVlt b hb).1⟩) hstill
 have hblk : w'.heap[w.heap.size]? = some (.cells arr e (0, 0)) := by rw [hw]; simp
 have hread : RdL w' O' [U'] [hv] (w.heap.size :: (fpV ++ [])) := .oblk hh hblk (.inr rfl) hk hr' .nil
 simp only [List.append_nil] at hread
 obtain ⟨fp', o2, s2⟩ := o1.put_own hN hread (List.nodup_cons.2 ⟨fun hb => by have := (hVlt _ hb).2; omega, hnd⟩) (by
  intro b hb hb1
  rcases List.mem_cons.1 hb with rfl | hb
  ·have := (hlt1 _ hb1).2; omega
  ·exact (hV b hb).2 hb1)
 refine ⟨hv, w', O', _, fp', .inl hrun, by rw [hd]; exact hext _ _ _ o2 rfl, ⟨hos, htape, hout, by rw [hw]; simp, ?_, ?_⟩⟩
 ·intro b hb _
  exact ⟨hold b hb, by simp [O']; omega⟩
 intro b hb
 rcases s2 b hb with h | h
 ·exact .inl (hs b h)
 rcases List.mem_cons.1 h with rfl | h
 ·exact .inr (Nat.le_refl _)
 exact .inl (hV b h).1
theorem Abw {P : Program} {o : Oper} {σ1 a w w' O gv N vals} {fp fp1 : Nat → List Nat} {d : Nat} {U' : V} {hv : Value} {k : Nat} {ch : List V} {arr : Array Value} {e : TypeId} {fpV : List Nat}
  (h : Ok σ1 a w O gv N vals fp1) (hd : o.dst = some d) (hN : d < N) (hs : ∀ b, Sof fp1 b → Sof fp b) (hV : ∀ b ∈ fpV, Sof fp b ∧ ¬ Sof fp1 b) (hnd : fpV.Nodup)
  (hw : w'.heap = w.heap.push (.cells arr e)) (hos : w'.os = w.os) (htape : w'.tape = w.tape) (hout : w'.output = w.output)
  (hh : Hdr U' hv true w.heap.size 0 k ch) (hk : k ≤ arr.size) (hr : RdL w O ch (arr.toList.take ch.length) fpV)
  (hrun : (execOp a.eval o).run P w = .ok (.value hv) w') : Bj P o (As d (.val U') σ1) a w O gv N fp :=
 Au4 h hd hN hs hV hnd hw hos htape hout hh hk hr hrun fun _ _ _ h _ => h
def Aoe (d : Nat) : A → V → St → St
 | .ref r [], .agg cs, σ => if r = d then σ else (r, .agg (Aa1 d [] 0 cs)) :: erase r σ
 | _, _, σ => σ
def A06 (d : Nat) (x : A) (σ : St) : Option St := match Jg σ x with
 | some (U, σ1) => if C9 U.cells then some (Aoe d x U (As d (.val (.ptr true U)) σ1)) else none
 | none => none
theorem Aye {σ σ1 : St} {a a' : Act} {w w' : World} {O O' : Nat → Prop} {gv N} {vals vals' : Nat → Value} {fp fp' : Nat → List Nat} {d : Nat} {y : A} {v hv : Value} {U : V} {us : List Value} {fpV : List Nat} (_h : Ok σ a w O gv N vals fp)
  (hr : RelL w O (look σ) vals [y] [v]) (hU : Jg σ y = some (U, σ1)) (rV : RdL w O [U] [v] fpV) (hcells : v.cells = us.toArray) (hl : us.length = U.cells.length)
  (hok : Ok (As d (.val (.ptr true U)) σ1) a' w' O' gv N vals' fp') (hvals : vals' = upF vals d hv) (hk : ∀ j, Is w' hv j = us[j]?) : Ok (Aoe d y U (As d (.val (.ptr true U)) σ1)) a' w' O' gv N vals' fp' := by
 unfold Aoe
 split
 case h_2 => exact hok
 rename_i r cs
 split
 ·exact hok
 rename_i hrd
 have hT : look σ r = .val (.agg cs) ∧ σ1 = As r .top σ := by
  simp only [Jg, Hv] at hU
  split at hU
  ·rename_i T hL; cases hU; exact ⟨hL, rfl⟩
  ·cases hU
 obtain ⟨hT, rfl⟩ := hT
 have hvr : vals r = v := by
  cases hr with
  | ref _ _ hv _ => simpa [Ec] using hv
 have hL : look (As d (.val (.ptr true (.agg cs))) (As r .top σ)) d = .val (.ptr true (.agg cs)) := by
  rw [Cn]; simp [upF, A.mapR]
 have hd' : vals' d = hv := by rw [hvals]; simp [upF]
 obtain ⟨us', h1, h2, h3⟩ := Agd hok hL (p := []) (u := .ptr true (.agg cs)) rfl rfl (v := vals' d) rfl cs 0 (by intro j hj; simp [V.kids, V.cells])
 have hus : us' = us := by
  apply List.ext_getElem?
  intro j
  by_cases hj : j < us'.length
  ·have := h2 j hj
   rw [← this, hd', ← hk j]; simp
  ·rw [List.getElem?_eq_none (by omega), List.getElem?_eq_none]
   simp only [V.cells] at hl
   omega
 subst hus
 have hvu : v = .agg us'.toArray := by
  obtain ⟨vs, rfl, _⟩ := Afe rV
  simp only [Value.cells] at hcells
  rw [hcells]
 have hv' : vals' r = .agg us'.toArray := by rw [hvals, ← hvu, ← hvr]; simp [upF, hrd]
 have htop : look (As d (.val (.ptr true (.agg cs))) (As r .top σ)) r = .top := by
  rw [Cn]; simp only [upF, Jz]; rw [if_neg hrd, if_neg hrd, Cn]; simp [upF, A.mapR]
 have hs := hok.sim.put_rel r (.agg (Aa1 d [] 0 cs)) htop (by rw [hv']; exact .agg h3 .nil)
 have e : look ((r, A.agg (Aa1 d [] 0 cs)) :: erase r (As d (.val (.ptr true (.agg cs))) (As r .top σ))) = upF (look (As d (.val (.ptr true (.agg cs))) (As r .top σ))) r (.agg (Aa1 d [] 0 cs)) := by
  funext s
  simp only [look, Wh, upF]
  by_cases hs : r = s
  ·subst hs; simp
  ·rw [if_neg hs, if_neg (Ne.symm hs), if_neg (Ne.symm hs)]
 rw [← e] at hs
 exact ⟨hs, hok.lo, hok.hi, hok.sz, hok.df⟩
theorem A3h {P : Program} {o : Oper} {σ σ' a w O gv N vals fp} {d : Nat} {t x x'} (h : Ok σ a w O gv N vals fp) (ho : o.op = .box t x') (hd : o.dst = some d) (hN : d < N)
  (hx : Ap N x x' = true) (hs : A06 d (Ai σ x) σ = some σ') : Bj P o σ' a w O gv N fp := by
 simp only [A06] at hs
 split at hs
 case h_2 => cases hs
 rename_i U σ1 hU
 split at hs
 case isFalse => cases hs
 rename_i hc
 cases hs
 have hrel := Am h hx
 obtain ⟨fp1, fpV, o1, rV, nV, dV, s1⟩ := Oo h hrel hU
 obtain ⟨us, hcells, rus⟩ := Ym rV hc
 have hl := rus.length
 exact Au4 (w' := w.alloc (.cells us.toArray t)) (arr := us.toArray) (e := t) o1 hd hN s1 dV nV rfl rfl rfl rfl (.ptr true U w.heap.size 0) (by simp [hl]) (by simpa [hl] using (by rw [← hl]; simpa using rus))
  (by simp [execOp, ho, Instr.box, newVar, newRow, hcells])
  (fun a' vals' fp' hok hv => Aye h hrel hU rV hcells hl hok hv (by
   intro j
   have e : (w.alloc (.cells us.toArray t)).heap = w.heap.push (.cells us.toArray t (0, 0)) := rfl
   have e2 : (w.alloc (.cells us.toArray t)).heap[w.heap.size]? = some (.cells us.toArray t (0, 0)) := by rw [e]; simp
   simp only [Is, World.cell?, Nat.zero_add]
   rw [e2]; simp))
def A19 (d : Nat) (z : V) (σ : St) : Option St := if C9 z.cells then some (As d (.val (.ptr true z.up)) σ) else none
theorem A2y {P : Program} {o : Oper} {σ σ' a w O gv N vals fp} {d : Nat} {t z zv} {fi : TypeInfo} (h : Ok σ a w O gv N vals fp) (ho : o.op = .alloc t) (hd : o.dst = some d) (hN : d < N)
  (hi : P.info? t = some fi) (hz : fi.zero = some zv) (hc : cRd z zv = true) (hs : A19 d z σ = some σ') : Bj P o σ' a w O gv N fp := by
 simp only [A19] at hs
 split at hs
 case isFalse => cases hs
 rename_i hcell
 cases hs
 obtain ⟨rV, _⟩ := Ako w O z zv hc
 obtain ⟨us, hcells, rus⟩ := Ym rV.up1 (by rw [Aki]; unfold C9 at hcell ⊢; rw [Agl]; exact hcell)
 have hl := rus.length
 exact Abw (w' := w.alloc (.cells us.toArray t)) (arr := us.toArray) (e := t) (fpV := []) h hd hN (fun _ => id) (by simp) (by simp) rfl rfl rfl rfl (.ptr true z.up w.heap.size 0) (by simp [hl])
  (by simpa [hl] using (by rw [← hl]; simpa using rus)) (by simp [execOp, ho, Instr.alloc, zeroValue, typeInfo, hi, hz, newVar, newRow, hcells])
def LIM : Nat := 4294967296
theorem Z9 {n : Int} (h0 : -9223372036854775808 ≤ n) (h1 : n ≤ 9223372036854775807) : IntKind.i64.wrap n = n := by
 exact IntWalk.i64_in n ⟨h0, h1⟩
def mkS (d m : Nat) (z : V) (x : A) (σ : St) : Option St := match x with
 | .val (.int _ n) => if 0 ≤ n ∧ n ≤ (LIM : Int) then some (As d (.val (.sl true m (List.replicate n.toNat z.up))) σ) else none
 | _ => none
theorem Yl (n : Nat) (z : V) : Bh (List.replicate n z) = (List.replicate n z.cells).flatten := by
 induction n with
 | zero => rfl
 | succ n ih => simp [List.replicate_succ, Bh, ih]
theorem Aof {w O z zs} (h : RdL w O z zs []) (n : Nat) : RdL w O (List.replicate n z).flatten (List.replicate n zs).flatten [] := by
 induction n with
 | zero => exact .nil
 | succ n ih => simpa [List.replicate_succ] using h.append ih
theorem A15 (zs : List Value) : ∀ n, (madeCells zs.toArray (n * zs.length)).toList = (List.replicate n zs).flatten := by
 intro n
 apply List.ext_getElem?
 intro i
 rcases Nat.eq_zero_or_pos zs.length with h0 | hpos
 ·have : zs = [] := List.eq_nil_of_length_eq_zero h0
  subst this; simp [madeCells]
 have hR : ∀ n i, (List.replicate n zs).flatten[i]? = if i < n * zs.length then zs[i % zs.length]? else none := by
  intro n
  induction n with
  | zero => intro i; simp
  | succ n ih =>
    intro i
    rw [List.replicate_succ, List.flatten_cons]
    rcases Nat.lt_or_ge i zs.length with h | h
    ·rw [List.getElem?_append_left h, if_pos (by rw [Nat.succ_mul]; omega), Nat.mod_eq_of_lt h]
    ·rw [List.getElem?_append_right h, ih]
     have e : i % zs.length = (i - zs.length) % zs.length := by rw [Nat.mod_eq_sub_mod h]
     rw [e]
     by_cases hlt : i - zs.length < n * zs.length
     ·rw [if_pos hlt, if_pos (by rw [Nat.succ_mul]; omega)]
     ·rw [if_neg hlt, if_neg (by rw [Nat.succ_mul]; omega)]
 rw [hR]
 simp only [madeCells, Array.toList_map, Array.toList_range, List.getElem?_map]
 by_cases hlt : i < n * zs.length
 ·rw [if_pos hlt, List.getElem?_range hlt]
  have hm : i % zs.length < zs.length := Nat.mod_lt _ hpos
  simp [hm]
 rw [if_neg hlt, List.getElem?_eq_none (by simpa using hlt)]; rfl
theorem Aur {P : Program} {o : Oper} {σ σ' a w O gv N vals fp} {d m : Nat} {t x x' e z zv} {fi : TypeInfo} (h : Ok σ a w O gv N vals fp) (ho : o.op = .makeSlice t x' x') (hd : o.dst = some d) (hN : d < N)
  (hx : Ap N x x' = true) (hu : P.underlying t = some (.slice e)) (hi : P.info? e = some fi) (hsz : fi.size = m) (hz : fi.zero = some zv) (hc : cRd z zv = true) (hzc : C9 z.cells = true)
  (hzm : z.cells.length = m) (hby : fi.bytes ≤ 1024) (hs : mkS d m z (Ai σ x) σ = some σ') : Bj P o σ' a w O gv N fp := by
 cases hcc : Ai σ x with
 | val v =>
   cases v with
   | int k n =>
     rw [hcc] at hs
     have hr := Am h hx
     rw [hcc] at hr
     have hv : a.eval x' = .int k n := by cases hr with | val _ hr _ => exact Bq hr
     simp only [mkS] at hs
     split at hs
     case isFalse => cases hs
     rename_i hb
     cases hs
     simp only [LIM] at hb
     obtain ⟨rV, _⟩ := Ako w O z zv hc
     replace rV := rV.up1
     replace hzc : C9 z.up.cells = true := by rw [Aki]; unfold C9 at hzc ⊢; rw [Agl]; exact hzc
     replace hzm : z.up.cells.length = m := by rw [Aki, Ath]; exact hzm
     generalize z.up = z at rV hzc hzm ⊢
     obtain ⟨zs, hcells, rzs⟩ := Ym rV hzc
     have hzl : zs.length = m := by rw [rzs.length, hzm]
     have hbytes : (fi.bytes : Int) * n ≤ 281474976710656 := by
      have h1 : (fi.bytes : Int) ≤ 1024 := by omega
      calc (fi.bytes : Int) * n ≤ 1024 * n := Int.mul_le_mul_of_nonneg_right h1 hb.1
       _ ≤ 281474976710656 := by omega
     have hrun := run_make (P := P) w t e fi zv hu hi hz k k n n hb.1 (Int.le_refl _) hbytes (by omega)
     have hfl : (Bh (List.replicate n.toNat z)).length = n.toNat * m := by
      rw [Yl]; simp [hzm]
     have harr : (madeCells zv.cells (n.toNat * fi.size)).toList = (List.replicate n.toNat zs).flatten := by
      rw [hcells, hsz, ← hzl]; exact A15 zs n.toNat
     have hsize : (madeCells zv.cells (n.toNat * fi.size)).size = n.toNat * m := by simp [madeCells, hsz]
     have hhdr := Hdr.sl true m (List.replicate n.toNat z) w.heap.size 0 n.toNat (by intro y hy; rw [(List.mem_replicate.1 hy).2]; exact hzm) (by simp)
     simp only [List.length_replicate] at hhdr
     refine Abw (w' := w.alloc (.cells (madeCells zv.cells (n.toNat * fi.size)) e)) (fpV := []) h hd hN (fun _ => id) (by simp) (by simp) rfl rfl rfl rfl hhdr (by rw [hsize]; omega) ?_
      (by simp [execOp, ho, hv, hrun])
     rw [harr, List.take_of_length_le (by rw [hfl, ← harr, Array.length_toList, hsize]; omega), Yl]
     exact Aof rzs n.toNat
   | _ => rw [hcc] at hs; simp [mkS] at hs
 | _ => rw [hcc] at hs; simp [mkS] at hs
def Av0 (d m : Nat) (x : A) (σ : St) : Option St := match x with
 | .val (.int _ n) => if 0 ≤ n ∧ n ≤ (LIM : Int) then some (As d (.val (.sl true m [])) σ) else none
 | _ => none
theorem A3b {P : Program} {o : Oper} {σ σ' a w O gv N vals fp} {d m : Nat} {t x x' e zv k0} {fi : TypeInfo} (h : Ok σ a w O gv N vals fp) (ho : o.op = .makeSlice t (.const (.int k0 0)) x') (hd : o.dst = some d) (hN : d < N)
  (hx : Ap N x x' = true) (hu : P.underlying t = some (.slice e)) (hi : P.info? e = some fi) (hsz : fi.size = m) (hz : fi.zero = some zv)
  (hby : fi.bytes ≤ 1024) (hs : Av0 d m (Ai σ x) σ = some σ') : Bj P o σ' a w O gv N fp := by
 cases hcc : Ai σ x with
 | val v =>
   cases v with
   | int k n =>
     rw [hcc] at hs
     have hr := Am h hx
     rw [hcc] at hr
     have hv : a.eval x' = .int k n := by cases hr with | val _ hr _ => exact Bq hr
     simp only [Av0] at hs
     split at hs
     case isFalse => cases hs
     rename_i hb
     cases hs
     simp only [LIM] at hb
     have hbytes : (fi.bytes : Int) * n ≤ 281474976710656 := by
      have h1 : (fi.bytes : Int) ≤ 1024 := by omega
      calc (fi.bytes : Int) * n ≤ 1024 * n := Int.mul_le_mul_of_nonneg_right h1 hb.1
       _ ≤ 281474976710656 := by omega
     have hrun := run_make (P := P) w t e fi zv hu hi hz k0 k 0 n (Int.le_refl 0) hb.1 hbytes (by omega)
     have hsize : (madeCells zv.cells (n.toNat * fi.size)).size = n.toNat * m := by simp [madeCells, hsz]
     have hhdr := Hdr.sl true m [] w.heap.size 0 n.toNat (by intro y hy; cases hy) (by simp)
     simp only [List.length_nil] at hhdr
     refine Abw (w' := w.alloc (.cells (madeCells zv.cells (n.toNat * fi.size)) e)) (fpV := []) h hd hN (fun _ => id) (by simp) (by simp) rfl rfl rfl rfl hhdr (by rw [hsize]; omega) ?_
      (by
       have he : a.eval (Operand.const (Value.int k0 0)) = Value.int k0 0 := rfl
       simp [execOp, ho, hv, he, hrun])
     exact .nil
   | _ => rw [hcc] at hs; simp [Av0] at hs
 | _ => rw [hcc] at hs; simp [Av0] at hs
end Go.Proofs.YthagmdhmgailfaaGreat.Ax
namespace Go.Proofs.YthagmdhmgailfaaGreat.Ax
open Go
theorem Agn : ∀ (us : List Value) (k off : Nat) (cells : Array Value), off + k + us.length ≤ cells.size →
  ((us.zipIdx k).foldl (fun (cs : Array Value) (x : Value × Nat) => cs.setIfInBounds (off + x.2) x.1) cells).toList = splice cells.toList (off + k) us := by
 intro us
 induction us with
 | nil => intro k off cells _; simp [splice]
 | cons u r ih =>
   intro k off cells h
   simp only [List.zipIdx_cons, List.foldl_cons]
   simp at h
   rw [ih (k + 1) off _ (by simp; omega)]
   simp only [splice, Array.toList_setIfInBounds, List.length_cons]
   have hlt : off + k < cells.toList.length := by simp; omega
   rw [List.set_eq_take_append_cons_drop, if_pos hlt]
   have e1 : off + (k + 1) = off + k + 1 := by omega
   rw [e1]
   have hl : (cells.toList.take (off + k)).length = off + k := by simp; omega
   rw [List.take_append, List.drop_append, hl]
   rw [List.take_of_length_le (l := cells.toList.take (off + k)) (by omega), List.drop_eq_nil_of_le (as := cells.toList.take (off + k)) (by omega)]
   simp only [Nat.add_sub_cancel_left]
   rw [show off + k + 1 + r.length - (off + k) = r.length + 1 by omega]
   simp only [List.take_succ_cons, List.take_zero, List.drop_succ_cons, List.drop_drop, List.nil_append, List.append_assoc, List.cons_append]
   congr 4; omega
theorem Amx {place : Nat → Option (Nat × Nat)} {cells : Array Value} {i off size : Nat} {v : Value} {rest : List (Nat × Value)} (hp : place i = some (off, size)) (hs : v.cells.size = size)
  (hl : off + size ≤ cells.size) : ∃ cells', Instr.fill place cells ((i, v) :: rest) = Instr.fill place cells' rest ∧ cells'.toList = splice cells.toList off v.cells.toList ∧ cells'.size = cells.size := by
 refine ⟨v.cells.zipIdx.foldl (fun cs (c, j) => cs.setIfInBounds (off + j) c) cells, ?_, ?_, ?_⟩
 ·simp only [Instr.fill, hp]
  rw [if_neg (by simp [hs]; omega)]
 ·rw [← Array.foldl_toList, Array.toList_zipIdx]
  have := Agn v.cells.toList 0 off cells (by simp [hs]; omega)
  simpa using this
 have := Agn v.cells.toList 0 off cells (by simp [hs]; omega)
 rw [← Array.foldl_toList, Array.toList_zipIdx]
 rw [← Array.length_toList]
 have h2 := congrArg List.length this
 rw [Tt (by simp [hs]; omega)] at h2
 simpa using h2
theorem Azb (size : Nat) : ∀ (vs : List Value) (k : Nat) (cells : Array Value), (∀ v ∈ vs, v.cells.size = size) → (k + vs.length) * size ≤ cells.size →
  ∃ cells', Instr.fill (fun i => some (i * size, size)) cells ((List.range' k vs.length).zip vs) = some cells' ∧
    cells'.toList = splice cells.toList (k * size) (vs.map (·.cells.toList)).flatten := by
 intro vs
 induction vs with
 | nil => intro k cells _ _; exact ⟨cells, rfl, by simp [splice]⟩
 | cons v r ih =>
   intro k cells hv hl
   simp only [List.length_cons] at hl
   have hk : k * size + size ≤ cells.size := by
    have : (k + 1) * size ≤ (k + (r.length + 1)) * size := Nat.mul_le_mul_right _ (by omega)
    rw [Nat.succ_mul] at this; omega
   obtain ⟨c1, h1, h2, h3⟩ := Amx (place := fun i => some (i * size, size)) (cells := cells) (i := k) (v := v) (rest := (List.range' (k + 1) r.length).zip r) rfl (hv v (by simp)) hk
   obtain ⟨c2, h4, h5⟩ := ih (k + 1) c1 (fun u hu => hv u (by simp [hu])) (by rw [h3]; rw [show k + 1 + r.length = k + (r.length + 1) by omega]; exact hl)
   refine ⟨c2, ?_, ?_⟩
   ·rw [List.length_cons, List.range'_succ, List.zip_cons_cons, h1, h4]
   ·rw [h5, h2]
    have hvl : v.cells.toList.length = size := by simp [hv v (by simp)]
    simp only [splice, List.map_cons, List.flatten_cons, List.length_append, hvl]
    have hl1 : (cells.toList.take (k * size)).length = k * size := by simp; omega
    rw [List.take_append, List.drop_append, hl1, List.take_of_length_le (l := cells.toList.take (k * size)) (by rw [hl1, Nat.succ_mul]; omega),
     List.drop_eq_nil_of_le (as := cells.toList.take (k * size)) (by rw [hl1, Nat.succ_mul]; omega)]
    rw [show (k + 1) * size - k * size = size by rw [Nat.succ_mul]; omega]
    rw [List.take_append, hvl, List.take_of_length_le (l := v.cells.toList) (by omega), Nat.sub_self, List.take_zero, List.append_nil]
    rw [show ∀ q, (k + 1) * size + q - k * size = size + q from fun q => by rw [Nat.succ_mul]; omega]
    rw [List.drop_append, hvl, List.drop_eq_nil_of_le (as := v.cells.toList) (by omega), Nat.add_sub_cancel_left]
    simp only [List.nil_append, List.drop_drop, List.append_assoc]
    have e : ∀ q, k * size + size + q = k * size + (size + q) := fun q => by omega
    rw [e]
def M2 (σ : St) : List A → Option (List V × St)
 | [] => some ([], σ)
 | a :: r => match Jg σ a with
   | some (v, σ1) => match M2 σ1 r with
     | some (vs, σ2) => some (v :: vs, σ2)
     | none => none
   | none => none
theorem Aw6 {a w O gv N vals L} : ∀ {as : List A} {σ vs fp Us σ'}, Ok σ a w O gv N vals fp → RelL w O L vals as vs → M2 σ as = some (Us, σ') →
  ∃ fp' fpV, Ok σ' a w O gv N vals fp' ∧ RdL w O Us vs fpV ∧ fpV.Nodup ∧ (∀ b ∈ fpV, Sof fp b ∧ ¬ Sof fp' b) ∧ (∀ b, Sof fp' b → Sof fp b) := by
 intro as
 induction as with
 | nil =>
   intro σ vs fp Us σ' h hr ht
   simp [M2] at ht; obtain ⟨rfl, rfl⟩ := ht
   cases hr
   exact ⟨fp, [], h, .nil, by simp, by simp, fun _ => id⟩
 | cons x r ih =>
   intro σ vs fp Us σ' h hr ht
   simp only [M2] at ht
   split at ht
   case h_2 => cases ht
   rename_i U σ1 h1
   split at ht
   case h_2 => cases ht
   rename_i Us' σ2 h2
   cases ht
   have hlen := hr.length
   match vs, hlen with
   | v :: vs, _ =>
     have hr1 : RelL w O L vals [x] [v] ∧ RelL w O L vals r vs := by
      cases hr with
      | top t => exact ⟨.top .nil, t⟩
      | val a b t => exact ⟨.val a b .nil, t⟩
      | ref a b c t => exact ⟨.ref a b c .nil, t⟩
      | addr a b c d e t => exact ⟨.addr a b c d e .nil, t⟩
      | fad a b c t => exact ⟨.fad a b c .nil, t⟩
      | agg s t => exact ⟨.agg s .nil, t⟩
      | clo s t => exact ⟨.clo s .nil, t⟩
     obtain ⟨fp1, f1, o1, r1, n1, d1, s1⟩ := Oo h hr1.1 h1
     obtain ⟨fp2, f2, o2, r2, n2, d2, s2⟩ := ih o1 hr1.2 h2
     refine ⟨fp2, f1 ++ f2, o2, r1.append r2, ?_, ?_, fun b hb => s1 b (s2 b hb)⟩
     ·refine List.nodup_append.2 ⟨n1, n2, ?_⟩
      rintro b hb c hc rfl
      exact (d1 b hb).2 (d2 b hc).1
     ·intro b hb
      rcases List.mem_append.1 hb with hb | hb
      ·exact ⟨(d1 b hb).1, fun hh => (d1 b hb).2 (s2 b hh)⟩
      ·exact ⟨s1 b (d2 b hb).1, (d2 b hb).2⟩
def Pp (m : Nat) : List V → Bool
 | [] => true
 | u :: r => decide (u.cells.length = m) && C9 u.cells && Pp m r
theorem A10 {w O m} : ∀ {Us vs fp}, RdL w O Us vs fp → Pp m Us = true → ∃ us, (vs.map (·.cells.toList)).flatten = us ∧ RdL w O (Bh Us) us fp ∧ (∀ v ∈ vs, v.cells.size = m) ∧
  us.length = Us.length * m ∧ (∀ u ∈ Us, u.cells.length = m) := by
 intro Us
 induction Us with
 | nil => intro vs fp h _; cases h; exact ⟨[], rfl, .nil, by simp, by simp, by simp⟩
 | cons x r ih =>
   intro vs fp h ha
   simp only [Pp, Bool.and_eq_true, decide_eq_true_eq] at ha
   obtain ⟨v, vs2, f1, f2, rfl, rfl, h1, h2⟩ := h.cons_split
   obtain ⟨us, hc, hr⟩ := Ym h1 ha.1.2
   obtain ⟨us2, e2, r2, m2, l2, c2⟩ := ih h2 ha.2
   have hul : us.length = m := by rw [hr.length, ha.1.1]
   refine ⟨us ++ us2, by simp [hc, e2], hr.append r2, ?_, ?_, ?_⟩
   ·intro u hu
    rcases List.mem_cons.1 hu with rfl | hu
    ·simp [hc, hul]
    ·exact m2 u hu
   ·rw [List.length_append, hul, l2, List.length_cons, Nat.succ_mul]; omega
   ·intro u hu
    rcases List.mem_cons.1 hu with rfl | hu
    ·exact ha.1.1
    ·exact c2 u hu
def Aql (d m : Nat) (xs : List A) (σ : St) : Option St := match M2 σ xs with
 | some (Us, σ1) => if Pp m Us then some (As d (.val (.sl true m Us)) σ1) else none
 | none => none
def Nl (N : Nat) : List X → List Operand → Bool
 | [], [] => true
 | x :: xs, o :: os => Ap N x o && Nl N xs os
 | _, _ => false
theorem Ab9 {σ a w O gv N vals fp} (h : Ok σ a w O gv N vals fp) : ∀ {xs : List X} {os : List Operand}, Nl N xs os = true → RelL w O (look σ) vals (xs.map (Ai σ)) (os.map a.eval) := by
 intro xs
 induction xs with
 | nil => intro os hf; cases os <;> simp [Nl] at hf; exact .nil
 | cons x r ih =>
   intro os hf
   cases os with
   | nil => simp [Nl] at hf
   | cons o os =>
     simp only [Nl, Bool.and_eq_true] at hf
     exact (Am h hf.1).cons_join (ih hf.2)
theorem A0k {P : Program} {o : Oper} {σ σ' a w O gv N vals fp} {d m : Nat} {t e} {n : Nat} {xs : List X} {parts : Array (Nat × Operand)} {fi : TypeInfo} {z : Value} (h : Ok σ a w O gv N vals fp)
  (ho : o.op = .buildSlice t n parts) (hd : o.dst = some d) (hN : d < N) (hp1 : parts.toList.map (·.1) = List.range n) (hp2 : Nl N xs (parts.toList.map (·.2)) = true)
  (hu : P.underlying t = some (.slice e)) (hi : P.info? e = some fi) (hsz : fi.size = m) (hz : fi.zero = some z) (hm : 0 < m) (hsmall : n * m ≤ 16777216)
  (hs : Aql d m (xs.map (Ai σ)) σ = some σ') : Bj P o σ' a w O gv N fp := by
 simp only [Aql] at hs
 split at hs
 case h_2 => cases hs
 rename_i Us σ1 hU
 split at hs
 case isFalse => cases hs
 rename_i hall
 cases hs
 obtain ⟨fp1, fpV, o1, rV, nV, dV, s1⟩ := Aw6 h (Ab9 h hp2) hU
 obtain ⟨us, eus, rus, hsize, hlen, hUc⟩ := A10 rV hall
 have hn : (parts.toList.map (·.2)).length = n := by
  have := congrArg List.length hp1; simpa using this
 have hUn : Us.length = n := by have := rV.length; simp at this; simp at hn; omega
 have hparts : (parts.map fun (x : Nat × Operand) => (x.1, a.eval x.2)).toList = (List.range' 0 n).zip ((parts.toList.map (·.2)).map a.eval) := by
  simp only [Array.toList_map]
  rw [← List.range_eq_range', ← hp1]
  generalize parts.toList = l
  induction l with
  | nil => rfl
  | cons x r ih => simp [ih]
 have hhdr := Hdr.sl true m Us w.heap.size 0 n hUc (by omega)
 rw [hUn] at hhdr
 by_cases h0 : n = 0
 ·subst h0
  have hUe : Us = [] := List.eq_nil_of_length_eq_zero hUn
  subst hUe
  refine Abw (w' := w.alloc (.cells #[] e)) (arr := #[]) (e := e) o1 hd hN s1 dV nV rfl rfl rfl rfl hhdr (by simp) ?_ ?_
  ·have : us = [] := by simpa using hlen
   subst this; simpa [Bh] using rus
  have : parts.toList = [] := by simpa using hp1
  have : parts = #[] := by simpa using this
  subst this
  simp [execOp, ho, Instr.buildSlice, run_underlying hu, Cr hi, Instr.fill, newRow]
  congr 2; apply Array.ext <;> simp
 obtain ⟨cells, hf, hc⟩ := Azb m ((parts.toList.map (·.2)).map a.eval) 0 ((Array.range (n * m)).map (z.cells[· % z.cells.size]!)) hsize (by simp at hn ⊢; rw [hn]; exact Nat.le_refl _)
 have hcells : cells.toList = us := by
  rw [hc, eus]
  have : us.length = n * m := by rw [hlen, hUn]
  simp [splice, this]
 refine Abw (w' := w.alloc (.cells cells e)) (arr := cells) (e := e) o1 hd hN s1 dV nV rfl rfl rfl rfl hhdr (by rw [← Array.length_toList, hcells, hlen, hUn]; omega) ?_ ?_
 ·rw [hcells, List.take_of_length_le (by rw [← rus.length]; omega)]; exact rus
 have hpos : ¬ n * fi.size = 0 := by rw [hsz]; exact Nat.ne_of_gt (Nat.mul_pos (by omega) hm)
 have hbs := run_buildSlice (P := P) w t e n (parts.map fun (x : Nat × Operand) => (x.1, a.eval x.2)) cells fi z hu hi hz (by rw [hsz]; omega) hpos (by
  rw [hparts, hsz]
  simp only [List.length_map] at hf hn
  rw [hn] at hf
  exact hf)
 simp [execOp, ho, hbs]
end Go.Proofs.YthagmdhmgailfaaGreat.Ax
namespace Go.Proofs.YthagmdhmgailfaaGreat.Ax
open Go
theorem Alr {P : Program} (w : World) (t ty e e' : TypeId) (i : TypeInfo) (ht : P.underlying t = some (.slice e)) (hi : P.info? e = some i)
  (g sLen sCap : Nat) (cur : Array Value) (hg : w.heap[g]? = some (.cells cur e' (0, 0)))
  (b : Value) (m : Nat) (news : List Value) (_hf : ∀ w, (Builtin.firstCells i.size m b).run P w = .ok news.toArray w → True)
  (hlen : (Builtin.lenOf b).run P w = .ok m w) (hfirst : (Builtin.firstCells i.size m b).run P w = .ok news.toArray w) (h1 : ∀ u ∈ news, u.oneCell' = true)
  (hroom : sLen + m ≤ sCap) (hfit : sLen * i.size + news.length ≤ cur.size) :
  (Builtin.append_ #[t, t] ty #[.slice (some ⟨g, 0, none⟩) sLen sCap, b]).run P w =
   .ok (.slice (some ⟨g, 0, none⟩) (sLen + m) sCap) (w.setRow g (cur.toList.take (sLen * i.size) ++ news ++ cur.toList.drop (sLen * i.size + news.length)).toArray) := by
 have hst := run_storeCells_at P g (sLen * i.size) e' news 0 cur w hg (by simpa using hfit) h1
 simp only [Nat.add_zero] at hst
 simp [Builtin.append_, run_underlying ht, Go.sizeOf, typeInfo, hi, hlen, hroom, hfirst, Addr.add_lit, hst]
def yS (σ : St) (m : Nat) : A → Option (List V × St)
 | .val (.sl _ m' ys) => if m' = m then some (ys, σ) else none
 | .val (.nilsl _) => some ([], σ)
 | .ref r p => match Bu σ r p with
   | some (.sl o m' ys) => if o = true ∧ m' = m then (if Ba (Bh ys) then (match Hv σ (.ref r p) with | some (_, σ1) => some (ys, σ1) | none => none) else some (ys, σ)) else none
   | _ => none
 | _ => none
theorem Atq {σ r p U σ1 u} (h : Hv σ (.ref r p) = some (U, σ1)) (hn : Bu σ r p = some u) : U = u := by
 unfold Bu at hn
 split at hn
 case h_2 => cases hn
 rename_i V hV
 cases p with
 | nil => simp [Hv, hV] at h; simp [sub] at hn; rw [← h.1, hn]
 | cons c p =>
   simp only [Hv, hV, hn] at h
   split at h
   ·cases h; rfl
   ·cases h
theorem Ao0 {w O m ys v fp} (h : RdL w O [.sl true m ys] [v] fp) : (ys = [] ∧ v = .slice none 0 0 ∧ fp = []) ∨ ∃ b cap arr e fpk, v = .slice (some ⟨b, 0, none⟩) ys.length cap ∧ w.heap[b]? = some (.cells arr e (0, 0)) ∧ ys.length ≤ cap ∧ cap * m ≤ arr.size ∧
  (∀ y ∈ ys, y.cells.length = m) ∧ RdL w O (Bh ys) (arr.toList.take (Bh ys).length) fpk ∧ fp = b :: fpk ∧ O b := by
 rcases Ac6 h rfl with ⟨m', e1, e2, e3⟩ | ⟨b, k, arr, e, f1, hh, hb, hO, hk, hr, rfl⟩
 ·cases e1; exact .inl ⟨rfl, e2, e3⟩
 cases hh with
 | sl _ _ _ _ _ cap hm hcap => exact .inr ⟨b, cap, arr, e, f1, rfl, hb, hcap, hk, hm, hr, rfl, hO⟩
theorem O5 {m : Nat} : ∀ {ys : List V}, (∀ y ∈ ys, y.cells.length = m) → (Bh ys).length = ys.length * m := by
 intro ys
 induction ys with
 | nil => intro _; simp [Bh]
 | cons y r ih =>
   intro h
   simp only [Bh, List.length_append, List.length_cons]
   rw [h y (by simp), ih fun z hz => h z (by simp [hz]), Nat.succ_mul]; omega
theorem Aun {w O o m ys v fp} (h : RdL w O [.sl o m ys] [v] fp) (ho : o = false) :
  ∃ q c us, v = .slice q ys.length c ∧ RdL w O (Bh ys) us [] ∧ (∀ z ∈ ys, z.cells.length = m) ∧
    ((ys = [] ∧ us = []) ∨ ∃ b, q = some b ∧ ∀ j u, us[j]? = some u → w.cell? (b.add j) = some u) := by
 subst ho
 cases h with
 | leaf hl _ => cases hl <;> exact ⟨_, _, [], rfl, .nil, by simp, .inl ⟨rfl, rfl⟩⟩
 | grp hg _ _ => cases hg
 | oblk hh _ _ _ _ _ => cases hh
 | fblk hh hc hO s t =>
   cases hh with
   | sl _ _ _ b off cap hm hcap =>
     refine ⟨_, _, _, rfl, s, hm, .inr ⟨_, rfl, ?_⟩⟩
     intro j u hj
     rw [F5, hc j (List.getElem?_eq_some_iff.1 hj).1]; exact hj
theorem Afy {w : World} {b : Nat} {arr : Array Value} {e : TypeId} {n : Nat} (hb : w.heap[b]? = some (.cells arr e (0, 0))) :
  ∀ j u, (arr.toList.take n)[j]? = some u → w.cell? ((⟨b, 0, none⟩ : Addr).add j) = some u := by
 intro j u hj
 rw [List.getElem?_take] at hj
 split at hj
 ·rw [F5, Nat.zero_add]; simp only [World.cell?, hb]; simpa using hj
 cases hj
theorem A4d {σ a w O gv N vals fp m y v ys σ'} (h : Ok σ a w O gv N vals fp) (hr : RelL w O (look σ) vals [y] [v]) (hy : yS σ m y = some (ys, σ')) :
  ∃ fp' fpY us, Ok σ' a w O gv N vals fp' ∧ RdL w O (Bh ys) us fpY ∧ fpY.Nodup ∧ (∀ b ∈ fpY, Sof fp b ∧ ¬ Sof fp' b) ∧ (∀ b, Sof fp' b → Sof fp b) ∧
    (∀ z ∈ ys, z.cells.length = m) ∧ ∃ q c, v = .slice q ys.length c ∧ ((ys = [] ∧ us = []) ∨ ∃ b, q = some b ∧ ∀ j u, us[j]? = some u → w.cell? (b.add j) = some u) := by
 unfold yS at hy
 split at hy
 ·rename_i o m' ys'
  split at hy
  case isFalse => cases hy
  rename_i hm
  cases hy
  subst hm
  cases hr with
  | val hn hr _ =>
    obtain ⟨q, c, us, hv, h1, h2, h3⟩ := Aun hr (by simpa [V.hasOwn] using hn)
    exact ⟨fp, [], us, h, h1, by simp, by simp, fun _ => id, h2, q, c, hv, h3⟩
 ·cases hy
  cases hr with
  | val hn hr _ => exact ⟨fp, [], [], h, .nil, by simp, by simp, fun _ => id, by simp, none, 0, by rw [Aqs hr]; rfl, .inl ⟨rfl, rfl⟩⟩
 ·rename_i r p
  split at hy
  case h_2 => cases hy
  rename_i o m' ys' hnode
  split at hy
  case isFalse => cases hy
  rename_i hc
  obtain ⟨rfl, rfl⟩ := hc
  split at hy
  ·rename_i hown
   split at hy
   case h_2 => cases hy
   rename_i U σ1 ht
   cases hy
   have hU := Atq ht hnode
   subst hU
   obtain ⟨fp', fpV, o1, rV, nV, dV, s1⟩ := V6 h (Acu hr rfl).1 ht
   rcases Ao0 rV with ⟨rfl, hv, rfl⟩ | ⟨b, cap, arr, e, fpk, hv, hb, hcap, hk, hm, hf, rfl, hO⟩
   ·simp [Bh, Ba] at hown
   exact ⟨fp', fpk, _, o1, hf, (List.nodup_cons.1 nV).2, fun q hq => dV q (by simp [hq]), s1, hm, _, _, hv, .inr ⟨_, rfl, Afy hb⟩⟩
  rename_i hown
  cases hy
  cases hr with
  | @ref _ _ V u _ _ _ hL hs hv _ =>
    simp only [Bu, hL, hs, Option.some.injEq] at hnode
    subst hnode
    obtain ⟨z, f1, fu, f2, _, hz, hru, _⟩ := ctx p (h.sim.own r V hL) hs
    rw [hv] at hz; cases hz
    rcases Ao0 hru with ⟨rfl, hv', rfl⟩ | ⟨b, cap, arr, e, fpk, hv', hb, hcap, hk, hm, hf, rfl, hO⟩
    ·exact ⟨fp, [], [], h, .nil, by simp, by simp, fun _ => id, by simp, none, 0, hv', .inl ⟨rfl, rfl⟩⟩
    have : fpk = [] := hf.noOwn (by simpa using hown)
    subst this
    exact ⟨fp, [], _, h, hf, by simp, by simp, fun _ => id, hm, _, _, hv', .inr ⟨_, rfl, Afy hb⟩⟩
 cases hy
def Aw8 (d m : Nat) (x y : X) (σ : St) : Option St := match yS σ m (Ai σ y) with
 | some (ys, σ1) => match Jg σ1 (Ai σ1 x) with
   | some (.sl o m' xs, σ2) => if o = true ∧ m' = m ∧ C9 (Bh ys) = true ∧ xs.length + ys.length ≤ LIM then some (As d (.val (.sl true m (xs ++ ys))) σ2) else none
   | _ => none
 | none => none
theorem Alu {P : Program} {w : World} {size n : Nat} {q : Option Addr} {c : Nat} {us : List Value} {ys : List V} (hl : us.length = n * size) (hn : ys.length = n)
  (h : (ys = [] ∧ us = []) ∨ ∃ b, q = some b ∧ ∀ j u, us[j]? = some u → w.cell? (b.add j) = some u) :
  (Builtin.firstCells size n (.slice q n c)).run P w = .ok us.toArray w := by
 rcases h with ⟨rfl, rfl⟩ | ⟨b, rfl, hc⟩
 ·simp at hn; subst hn
  cases q with
  | none => simp [Builtin.firstCells]
  | some b => simp [Builtin.firstCells, loadCells, loadCellsFrom]
 exact run_firstCells_some (P := P) w size n b n c us hl hc
theorem A2z {P : Program} {o : Oper} {σ σ' a w O gv N vals fp} {d m : Nat} {t e x x' y y'} {fi : TypeInfo} {z : Value} (h : Ok σ a w O gv N vals fp)
  (ho : o.op = .call { callee := .builtin .append, args := #[x', y'], argTypes := #[t, t] }) (hd : o.dst = some d) (hN : d < N) (hx : Ap N x x' = true) (hy : Ap N y y' = true)
  (hu : P.underlying t = some (.slice e)) (hi : P.info? e = some fi) (hsz : fi.size = m) (hz : fi.zero = some z) (hzs : z.cells.size = m) (hby : fi.bytes ≤ 1024)
  (hs : Aw8 d m x y σ = some σ') : Bj P o σ' a w O gv N fp := by
 simp only [Aw8] at hs
 split at hs
 case h_2 => cases hs
 rename_i ys σ1 hY
 obtain ⟨fp1, fpY, us, o1, rY, nY, dY, s1, hmY, q, cy, hvy, hcy⟩ := A4d h (Am h hy) hY
 have hul : us.length = ys.length * m := by rw [rY.length, O5 hmY]
 have hfirst : ∀ n, n = ys.length → (Builtin.firstCells fi.size n (.slice q n cy)).run P w = .ok us.toArray w := by
  rintro n rfl; rw [hsz]; exact Alu hul rfl hcy
 have hlenof : (Builtin.lenOf (.slice q ys.length cy)).run P w = .ok ys.length w := by simp [Builtin.lenOf]
 have hexec : ∀ r w', (Builtin.append_ #[t, t] o.type #[a.eval x', a.eval y']).run P w = .ok r w' → (execOp a.eval o).run P w = .ok (.value r) w' := by
  intro r w' hrun
  simp [execOp, ho, resolve, invoke, builtin, hrun]
 split at hs
 ·-- onto a slice of one's own
  rename_i oo m' xs σ2 hX
  split at hs
  case isFalse => cases hs
  rename_i hcond
  obtain ⟨rfl, rfl, hcell, hlim⟩ := hcond
  cases hs
  simp only [LIM] at hlim
  obtain ⟨fp2, fpX, o2, rX, nX, dX, s2⟩ := Oo o1 (Am o1 hx) hX
  rcases Ao0 rX with ⟨rfl, hvx, efx⟩ | ⟨b, cap, arr, e', fpk, hvx, hb, hcap, hk, hmX, hf, efx, hO⟩
  ·-- onto nil
   simp only [List.nil_append]
   by_cases he : ys = []
   ·subst he
    have hus : us = [] := by simpa using hul
    subst hus
    obtain ⟨fp3, o3, s3⟩ := o2.put_own hN (x := .sl true m' []) (v := .slice none 0 0) (fpn := []) (.leaf (.nils1 m') .nil) (by simp) (by simp)
    have hf := hfirst 0 (by simp)
    simp only [List.length_nil] at hvy hlenof
    refine ⟨_, w, O, _, fp3, .inl (hexec (.slice none 0 0) w ?_), by rw [hd]; exact o3, (Mv.refl w O _).shrink fun q hq => s1 q (s2 q ((s3 q hq).resolve_right (by simp)))⟩
    rw [hvx, hvy]
    simp [Builtin.append_, run_underlying hu, Go.sizeOf, typeInfo, hi, hlenof, hf]
   obtain ⟨ab, rfl, hcy'⟩ := hcy.resolve_left (fun h => he h.1)
   have hpos : 0 < ys.length := List.length_pos_iff.2 he
   have hlim' : ys.length ≤ 4294967296 := by simpa using hlim
   have hrun := run_append_nil (P := P) w t o.type e fi z hu hi hz ab ys.length cy us (by rw [hul, hsz]) hcy' hpos (by omega) (by
    calc ys.length * fi.bytes ≤ 4294967296 * 1024 := Nat.mul_le_mul hlim' hby
     _ ≤ 281474976710656 := by omega)
   rw [← hvx, ← hvy] at hrun
   have hcapge := grownCap_ge w ys.length 0 e
   have hh := Hdr.sl true m' ys w.heap.size 0 (grownCap w ys.length 0 e) hmY hcapge
   refine Abw (w' := w.drew.alloc (.cells (us.toArray ++ Builtin.zeroCells z.cells (grownCap w ys.length 0 e - ys.length)) e)) (fpV := fpY) o2 hd hN (fun q hq => s1 q (s2 q hq)) (fun q hq => ⟨(dY q hq).1, fun h2 => (dY q hq).2 (s2 q h2)⟩) nY rfl rfl rfl rfl hh ?_ ?_ (hexec _ _ hrun)
   ·simp only [Array.size_append, List.size_toArray, hul, size_zeroCells, hzs, ← Nat.add_mul]
    exact Nat.mul_le_mul_right _ (by omega)
   have hl1 : us.length = (Bh ys).length := by rw [hul, O5 hmY]
   simp only [Array.toList_append]
   rw [← hl1, List.take_left]
   exact rY
  subst efx
  have hbk := (List.nodup_cons.1 nX).1
  have ndk := (List.nodup_cons.1 nX).2
  have hxl : (Bh xs).length = xs.length * m' := O5 hmX
  have h1 := Ajx rY hcell
  have hflat : (Bh (xs ++ ys)).length = (xs.length + ys.length) * m' := by rw [Tj, List.length_append, hxl, O5 hmY, Nat.add_mul]
  have hmXY : ∀ z ∈ xs ++ ys, z.cells.length = m' := fun z hz => (List.mem_append.1 hz).elim (hmX z) (hmY z)
  have hXYd : ∀ q ∈ fpk, q ∉ fpY := fun q hq hq' => (dY q hq').2 (dX q (by simp [hq])).1
  have hbY : b ∉ fpY := fun hq => (dY b hq).2 (dX b (by simp)).1
  have hYfp2 : ∀ q ∈ fpY, ¬ Sof fp2 q := fun q hq h2 => (dY q hq).2 (s2 q h2)
  by_cases hroom : xs.length + ys.length ≤ cap
  ·-- in place
   have hfit : xs.length * fi.size + us.length ≤ arr.size := by
    rw [hsz, hul, ← Nat.add_mul]
    exact Nat.le_trans (Nat.mul_le_mul_right _ hroom) hk
   have hrun := Alr (P := P) w t o.type e e' fi hu hi b xs.length cap arr hb (.slice q ys.length cy) ys.length us (fun _ _ => trivial) hlenof (hfirst _ rfl) h1 hroom hfit
   rw [← hvx, ← hvy] at hrun
   let arr' : Array Value := (arr.toList.take (xs.length * fi.size) ++ us ++ arr.toList.drop (xs.length * fi.size + us.length)).toArray
   have hheap : (w.setRow b arr').heap[b]? = some (.cells arr' e' (0, 0)) := setRow_heap w b arr arr' e' (0, 0) hb
   have hother : ∀ q, q ≠ b → (w.setRow b arr').heap[q]? = w.heap[q]? := fun q hq => setRow_other w b q arr' hq
   have hstill : Qw w O (w.setRow b arr') O := fun q hq _ => ⟨hother q (fun e => hq (e ▸ hO)), hq⟩
   have hsz' : arr'.size = arr.size := by simp [arr']; omega
   have frm : ∀ {xs vs f}, RdL w O xs vs f → b ∉ f → RdL (w.setRow b arr') O xs vs f := fun hr hnb =>
    hr.frame (fun q hq => ⟨hother q (fun e => hnb (e ▸ hq)), (hr.fpO q hq).1⟩) hstill
   have htake : arr'.toList.take (Bh (xs ++ ys)).length = arr.toList.take (Bh xs).length ++ us := by
    have hl1 : (arr.toList.take (xs.length * m') ++ us).length = (Bh (xs ++ ys)).length := by
     rw [hflat, List.length_append, List.length_take, hul, Nat.add_mul]
     simp; rw [hsz, hul] at hfit; omega
    simp only [arr', hsz, hxl]
    rw [← hl1, List.take_left]
   have hread : RdL (w.setRow b arr') O [.sl true m' (xs ++ ys)] [.slice (some ⟨b, 0, none⟩) (xs.length + ys.length) cap] (b :: ((fpk ++ fpY) ++ [])) := by
    have hh := Hdr.sl true m' (xs ++ ys) b 0 cap hmXY (by simpa using hroom)
    simp only [List.length_append] at hh
    refine .oblk hh hheap hO (by omega) ?_ .nil
    rw [htake, Tj]
    exact (frm hf hbk).append (frm rY hbY)
   simp only [List.append_nil] at hread
   have o3 : Ok σ2 a (w.setRow b arr') O gv N vals fp2 := o2.world hstill fun q hq => by
    have hqb : q ≠ b := by rintro rfl; exact (dX _ (by simp)).2 hq
    obtain ⟨s, hs⟩ := hq
    exact ⟨hother q hqb, (o2.sim.fpO s q hs).1⟩
   obtain ⟨fp3, o4, s4⟩ := o3.put_own hN hread (by
    refine List.nodup_cons.2 ⟨by simp [hbk, hbY], List.nodup_append.2 ⟨ndk, nY, ?_⟩⟩
    rintro q hq q' hq' rfl; exact hXYd q hq hq') (by
    intro q hq
    simp only [List.mem_cons, List.mem_append] at hq
    rcases hq with rfl | hq | hq
    ·exact (dX _ (by simp)).2
    ·exact (dX q (by simp [hq])).2
    ·exact hYfp2 q hq)
   refine ⟨_, _, O, _, fp3, .inl (hexec _ _ hrun), by rw [hd]; exact o4, ⟨rfl, rfl, rfl, by simp [World.setRow], ?_, ?_⟩⟩
   ·intro q _ hq
    exact ⟨hother q (by rintro rfl; exact hq (s1 _ (dX _ (by simp)).1)), .rfl⟩
   intro q hq
   left
   rcases s4 q hq with h | h
   ·exact s1 q (s2 q h)
   simp only [List.mem_cons, List.mem_append] at h
   rcases h with rfl | h | h
   ·exact s1 _ (dX _ (by simp)).1
   ·exact s1 _ (dX q (by simp [h])).1
   exact (dY q h).1
  have holds : ∀ j u, (arr.toList.take (Bh xs).length)[j]? = some u → w.cell? ((⟨b, 0, none⟩ : Addr).add j) = some u := Afy hb
  have hne : ys ≠ [] := by rintro rfl; simp at hroom; omega
  obtain ⟨ab, rfl, hcy'⟩ := hcy.resolve_left (fun h => hne h.1)
  have hlt : (arr.toList.take (Bh xs).length).length = xs.length * fi.size := by
   rw [hf.length, hxl, hsz]
  have hrun := run_append_grow (P := P) w t o.type e fi z hu hi hz ⟨b, 0, none⟩ xs.length cap _ hlt holds ab ys.length cy us (by rw [hul, hsz]) hcy' (by omega) (by omega)
   (growslice_fits (by omega) (by
    calc (xs.length + ys.length) * fi.bytes ≤ 4294967296 * 1024 := Nat.mul_le_mul hlim hby
     _ ≤ 140737488355328 := by omega))
  rw [← hvx, ← hvy] at hrun
  have hcapge := grownCap_ge w (xs.length + ys.length) cap e
  have hh := Hdr.sl true m' (xs ++ ys) w.heap.size 0 (grownCap w (xs.length + ys.length) cap e) hmXY (by simpa using hcapge)
  simp only [List.length_append] at hh
  have hlist : ∀ zs : Array Value, ((arr.toList.take (Bh xs).length).toArray ++ us.toArray ++ zs).toList.take (Bh (xs ++ ys)).length = arr.toList.take (Bh xs).length ++ us := by
   intro zs
   have hl1 : (arr.toList.take (Bh xs).length ++ us).length = (Bh (xs ++ ys)).length := by
    rw [List.length_append, hlt, hul, hflat, hsz, Nat.add_mul]
   simp only [Array.toList_append, List.append_assoc]
   rw [← List.append_assoc, ← hl1, List.take_left]
  refine Abw (w' := w.drew.alloc (.cells ((arr.toList.take (Bh xs).length).toArray ++ us.toArray ++ Builtin.zeroCells z.cells (grownCap w (xs.length + ys.length) cap e - (xs.length + ys.length))) e)) (fpV := fpk ++ fpY) o2 hd hN (fun q hq => s1 q (s2 q hq)) ?_ (List.nodup_append.2 ⟨ndk, nY, ?_⟩) rfl rfl rfl rfl hh ?_ ?_ (hexec _ _ hrun)
  ·intro q hq
   rcases List.mem_append.1 hq with hq | hq
   ·exact ⟨s1 _ (dX q (by simp [hq])).1, (dX q (by simp [hq])).2⟩
   exact ⟨(dY q hq).1, hYfp2 q hq⟩
  ·rintro q hq q' hq' rfl; exact hXYd q hq hq'
  ·simp only [Array.size_append, List.size_toArray, hlt, hul, hsz, size_zeroCells, hzs, ← Nat.add_mul]
   exact Nat.mul_le_mul_right _ (by omega)
  rw [hlist, Tj]
  exact hf.append rY
 cases hs
end Go.Proofs.YthagmdhmgailfaaGreat.Ax
namespace Go.Proofs.YthagmdhmgailfaaGreat.Ax
open Go
theorem RelL.append {w O L vals as vs bs us} (h : RelL w O L vals as vs) (k : RelL w O L vals bs us) : RelL w O L vals (as ++ bs) (vs ++ us) := by
 induction h with
 | nil => exact k
 | top _ ih => exact .top ih
 | val a b _ ih => exact .val a b ih
 | ref a b c _ ih => exact .ref a b c ih
 | addr a b c d e _ ih => exact .addr a b c d e ih
 | fad a b c _ ih => exact .fad a b c ih
 | agg s _ _ ih => exact .agg s ih
 | clo s _ _ ih => exact .clo s ih
theorem RelL.uncons {w O L vals x as v vs} (h : RelL w O L vals (x :: as) (v :: vs)) : RelL w O L vals [x] [v] ∧ RelL w O L vals as vs := by
 cases h with
 | top t => exact ⟨.top .nil, t⟩
 | val a b t => exact ⟨.val a b .nil, t⟩
 | ref a b c t => exact ⟨.ref a b c .nil, t⟩
 | addr a b c d e t => exact ⟨.addr a b c d e .nil, t⟩
 | fad a b c t => exact ⟨.fad a b c .nil, t⟩
 | agg s t => exact ⟨.agg s .nil, t⟩
 | clo s t => exact ⟨.clo s .nil, t⟩
theorem RelL.takeDrop {w O L vals} : ∀ (n : Nat) {as vs}, RelL w O L vals as vs → RelL w O L vals (as.take n) (vs.take n) ∧ RelL w O L vals (as.drop n) (vs.drop n) := by
 intro n
 induction n with
 | zero => intro as vs h; exact ⟨by simpa using .nil, by simpa using h⟩
 | succ n ih =>
   intro as vs h
   have hl := h.length
   cases as with
   | nil => cases vs with
     | nil => exact ⟨by simpa using .nil, by simpa using .nil⟩
     | cons _ _ => simp at hl
   | cons x r => cases vs with
     | nil => simp at hl
     | cons v vs =>
       obtain ⟨h1, h2⟩ := h.uncons
       obtain ⟨a, b⟩ := ih h2
       exact ⟨by simpa using h1.cons_join a, by simpa using b⟩
theorem RelL.splice {w O L vals as vs bs us} (h : RelL w O L vals as vs) (k : RelL w O L vals bs us) (c : Nat) : RelL w O L vals (Ax.splice as c bs) (Ax.splice vs c us) := by
 unfold Ax.splice
 rw [k.length]
 exact (h.takeDrop c).1.append (k.append (h.takeDrop (c + bs.length)).2)
def J9 (σ : St) : A → Option (List A)
 | .agg as => some as
 | .val (.agg cs) => some (cs.map .val)
 | .val v => if v.isCell then some [.val v] else none
 | .ref r p => match Bu σ r p with
   | some (.agg cs) => some (Aa1 r p 0 cs)
   | some u => if u.isCell then some [.ref r p] else none
   | none => none
 | .clo f as => some [.clo f as]
 | .addr r p c => some [.addr r p c]
 | .fad cs => some [.fad cs]
 | .top => none
theorem Aad {w O L vals} : ∀ {cs us}, RdL w O cs us [] → Ba cs = false → RelL w O L vals (cs.map .val) us := by
 intro cs
 induction cs with
 | nil => intro us h _; cases h; exact .nil
 | cons c r ih =>
   intro us h hn
   simp [Ba] at hn
   obtain ⟨u, us2, f1, f2, rfl, hf, h1, h2⟩ := h.cons_split
   obtain ⟨rfl, rfl⟩ := List.append_eq_nil_iff.1 hf.symm
   exact .val hn.1 h1 (ih h2 hn.2)
theorem Ajc {σ a w O gv N vals fp} (h : Ok σ a w O gv N vals fp) {x v as} (hr : RelL w O (look σ) vals [x] [v]) (hc : J9 σ x = some as) :
  ∃ us, v.cells = us.toArray ∧ RelL w O (look σ) vals as us := by
 cases hr with
 | top _ => simp [J9] at hc
 | agg s t => cases t; simp [J9] at hc; subst hc; exact ⟨_, rfl, s⟩
 | clo s t => cases t; simp [J9] at hc; subst hc; exact ⟨[_], rfl, .clo s .nil⟩
 | addr a b c d e t => simp [J9] at hc; subst hc; exact ⟨[_], rfl, .addr a b c d e .nil⟩
 | fad a b c t => simp [J9] at hc; subst hc; exact ⟨[_], rfl, .fad a b c .nil⟩
 | @val y v _ _ hn hr t =>
   by_cases ha : ∃ cs, y = .agg cs
   ·obtain ⟨cs, rfl⟩ := ha
    simp [J9] at hc; subst hc
    obtain ⟨us, rfl, hus⟩ := Afe hr
    exact ⟨us, rfl, Aad hus (by simpa [V.hasOwn] using hn)⟩
   ·have : y.isCell = true ∧ as = [.val y] := by
     cases y <;> simp_all [J9]
    obtain ⟨h1, rfl⟩ := this
    exact ⟨[v], (Ah7 hr h1).2, .val hn hr .nil⟩
 | @ref r p T u v _ _ hL hs hv t =>
   simp only [J9, Bu, hL, hs] at hc
   obtain ⟨z, f1, fu, f2, _, hz, hru, _⟩ := ctx p (h.sim.own r T hL) hs
   rw [hv] at hz; cases hz
   by_cases ha : ∃ cs, u = .agg cs
   ·obtain ⟨cs, rfl⟩ := ha
    simp at hc; subst hc
    obtain ⟨us, e, hus⟩ := Afe hru
    obtain ⟨us', h1, h2, h3⟩ := Agd h hL hs rfl hv cs 0 (by intro j hj; simp [V.kids])
    have : us' = us := by
     apply List.ext_getElem?
     intro j
     by_cases hj : j < us'.length
     ·rw [← h2 j hj, e]; simp [Is]
     ·rw [List.getElem?_eq_none (by omega), List.getElem?_eq_none (by rw [hus.length, ← h1]; omega)]
    subst this
    exact ⟨us', by rw [e]; rfl, h3⟩
   ·have : u.isCell = true ∧ as = [.ref r p] := by
     cases u <;> simp_all
    obtain ⟨h1, rfl⟩ := this
    exact ⟨[_], (Ah7 hru h1).2, .ref hL hs hv .nil⟩
def Ad4 (σ : St) : List A → List (Nat × Nat × X) → Option (List A)
 | cells, [] => some cells
 | cells, (off, size, x) :: r => match J9 σ (Ai σ x) with
   | some as => if as.length = size ∧ off + size ≤ cells.length then Ad4 σ (splice cells off as) r else none
   | none => none
def A1o (d : Nat) (z : List V) (ps : List (Nat × Nat × X)) (σ : St) : Option St := match Ad4 σ (z.map .val) ps with
 | some as => some (As d (upA (mkA true as)) σ)
 | none => none
def Ab3 (N : Nat) (place : Nat → Option (Nat × Nat)) : List (Nat × Nat × X) → List (Nat × Operand) → Bool
 | [], [] => true
 | (off, size, x) :: r, (i, o) :: s => place i == some (off, size) && Ap N x o && Ab3 N place r s
 | _, _ => false
theorem Ayk {σ a w O gv N vals fp} (h : Ok σ a w O gv N vals fp) {place : Nat → Option (Nat × Nat)} : ∀ {ps : List (Nat × Nat × X)} {os : List (Nat × Operand)} {cells as : List A} {arr : Array Value},
  RelL w O (look σ) vals cells arr.toList → Ab3 N place ps os = true → Ad4 σ cells ps = some as →
  ∃ arr', Instr.fill place arr (os.map fun x => (x.1, a.eval x.2)) = some arr' ∧ RelL w O (look σ) vals as arr'.toList := by
 intro ps
 induction ps with
 | nil => intro os cells as arr hr hf hg; cases os <;> simp [Ab3] at hf; simp [Ad4] at hg; subst hg; exact ⟨arr, rfl, hr⟩
 | cons p r ih =>
   intro os cells as arr hr hf hg
   obtain ⟨off, size, x⟩ := p
   cases os with
   | nil => simp [Ab3] at hf
   | cons q s =>
     obtain ⟨i, o⟩ := q
     simp only [Ab3, Bool.and_eq_true, beq_iff_eq] at hf
     simp only [Ad4] at hg
     split at hg
     case h_2 => cases hg
     rename_i bs hbs
     split at hg
     case isFalse => cases hg
     rename_i hb
     obtain ⟨us, hus, rus⟩ := Ajc h (Am h hf.1.2) hbs
     have hl := hr.length
     have hul := rus.length
     simp at hl
     obtain ⟨arr1, h1, h2, h3⟩ := Amx (place := place) (cells := arr) (i := i) (v := a.eval o) (rest := s.map fun x => (x.1, a.eval x.2)) hf.1.1 (by rw [hus]; simp; omega) (by omega)
     obtain ⟨arr', h4, h5⟩ := ih (arr := arr1) (by rw [h2, hus]; simpa using hr.splice rus off) hf.2 hg
     exact ⟨arr', by rw [List.map_cons, h1, h4], h5⟩
def Akd (P : Program) (t : TypeId) : Option (Nat → Option (Nat × Nat)) := match P.underlying t with
 | some (.array _ e) => match P.info? e with
   | some ie => some fun i => some (i * ie.size, ie.size)
   | none => none
 | some (.struct fields) => match fields.toList.mapM (fun f => (P.info? f.type).map fun i => (f.offset, i.size)) with
   | some places => some (places.toArray[·]?)
   | none => none
 | _ => none
theorem A3r {P : Program} {o : Oper} {σ σ' a w O gv N vals fp} {d : Nat} {t z ps} {parts : Array (Nat × Operand)} {place} {fi : TypeInfo} {zv : Value} (h : Ok σ a w O gv N vals fp)
  (ho : o.op = .build t parts) (hd : o.dst = some d) (hN : d < N) (hp : Akd P t = some place) (hf : Ab3 N place ps parts.toList = true) (hi : P.info? t = some fi) (hz : fi.zero = some zv)
  (hc : Aqy z zv.cells.toList = true) (hs : A1o d z ps σ = some σ') : Bj P o σ' a w O gv N fp := by
 simp only [A1o] at hs
 split at hs
 case h_2 => cases hs
 rename_i as has
 cases hs
 obtain ⟨rz, nz⟩ := Anx w O z zv.cells.toList hc
 obtain ⟨arr, h1, h2⟩ := Ayk h (arr := zv.cells) (Aad rz nz) hf has
 have hb : P.built t (parts.map fun (x : Nat × Operand) => (x.1, a.eval x.2)).toList = some arr := by
  rw [Array.toList_map]
  unfold Program.built
  unfold Akd at hp
  rw [hi]
  split at hp
  ·rename_i e hu
   rw [hu]
   split at hp
   ·rename_i ie hie; cases hp; simp only [hz, hie]; exact h1
   ·cases hp
  ·rename_i fields hu
   rw [hu]
   split at hp
   ·rename_i places hpl; cases hp; simp only [hz, hpl]; exact h1
   ·cases hp
  ·cases hp
 have hrun := run_build (P := P) w t _ arr hb
 have := Ao5 (ag := true) h2 (by simp)
 simp at this
 exact .up h hd hN this (by simp [execOp, ho, hrun])
def A3p (d off n : Nat) (ag : Bool) (x : A) (σ : St) : Option St := match J9 σ x with
 | some as => if off + n ≤ as.length then some (As d (mkA ag ((as.drop off).take n)) σ) else none
 | none => none
theorem Asd {P : Program} {t n ag} (hf : Pm P t n ag = true) (w : World) (us : List Value) (off : Nat) (hl : off + n ≤ us.length) :
  (part t us.toArray off).run P w = .ok (if ag then .agg ((us.drop off).take n).toArray else ((us.drop off).take n).headD undef) w := by
 obtain ⟨⟨i, hi, hn⟩, hag, h1⟩ := Od hf
 cases ag with
 | true =>
   have : us.toArray.extract off (off + n) = ((us.drop off).take n).toArray := by
    simp [List.extract_eq_take_drop]
   simp [part, hag, Cr hi, hn]
 | false =>
   have hn1 := h1 rfl
   subst hn1
   have hlt : off < us.length := by omega
   have : us[off]? = some us[off] := by simp [hlt]
   have e : (us.drop off).take 1 = [us[off]] := by
    rw [List.drop_eq_getElem_cons hlt]; rfl
   simp only [part, hag, Sem.run_bind, Result.andThen_ok, e]
   simp [hlt]
theorem Ap6 {w O L vals as us n ag off} (hr : RelL w O L vals as us) (hl : off + n ≤ as.length) (h1 : ag = false → n = 1) :
  RelL w O L vals [mkA ag ((as.drop off).take n)] [if ag then .agg ((us.drop off).take n).toArray else ((us.drop off).take n).headD undef] :=
 Ao5 (((hr.takeDrop off).2.takeDrop n).1) (fun e => by have := hr.length; have := h1 e; simp; omega)
def Apt (σ : St) : A → Bool
 | .agg _ => true
 | .val (.agg _) => true
 | .ref r p => match Bu σ r p with
   | some (.agg _) => true
   | _ => false
 | _ => false
theorem Akq {σ a w O gv N vals fp} (h : Ok σ a w O gv N vals fp) {x v as} (hr : RelL w O (look σ) vals [x] [v]) (hc : J9 σ x = some as) (hg : Apt σ x = true) :
  ∃ us, v = .agg us.toArray ∧ RelL w O (look σ) vals as us := by
 obtain ⟨us, h1, h2⟩ := Ajc h hr hc
 refine ⟨us, ?_, h2⟩
 cases hr with
 | agg s t => cases t; simp [Value.cells] at h1; rw [h1]
 | @val y v _ _ hn hr t =>
   cases y <;> simp [Apt] at hg
   obtain ⟨us', rfl, _⟩ := Afe hr
   simp [Value.cells] at h1; rw [h1]
 | @ref r p T u v _ _ hL hs hv t =>
   simp only [Apt, Bu, hL, hs] at hg
   obtain ⟨z, f1, fu, f2, _, hz, hru, _⟩ := ctx p (h.sim.own r T hL) hs
   rw [hv] at hz; cases hz
   cases u <;> simp at hg
   obtain ⟨us', e, _⟩ := Afe hru
   rw [e] at h1 ⊢
   simp [Value.cells] at h1; rw [h1]
 | _ => simp [Apt] at hg
theorem A3k {P : Program} {o : Oper} {σ σ' a w O gv N vals fp} {d off n : Nat} {ag : Bool} {t i x x' fs} {f : Field} (h : Ok σ a w O gv N vals fp) (ho : o.op = .field t x' i) (hd : o.dst = some d) (hN : d < N)
  (hx : Ap N x x' = true) (hu : P.underlying t = some (.struct fs)) (hfi : fs[i]? = some f) (hoff : f.offset = off) (hf : Pm P f.type n ag = true) (hg : Apt σ (Ai σ x) = true)
  (hs : A3p d off n ag (Ai σ x) σ = some σ') : Bj P o σ' a w O gv N fp := by
 simp only [A3p] at hs
 split at hs
 case h_2 => cases hs
 rename_i as has
 split at hs
 case isFalse => cases hs
 rename_i hle
 cases hs
 obtain ⟨us, hv, hr⟩ := Akq h (Am h hx) has hg
 have hl := hr.length
 obtain ⟨_, _, h1⟩ := Od hf
 refine .rel h hd hN (Ap6 (ag := ag) hr hle h1) ?_
 have hp := Asd (P := P) hf w us off (by omega)
 simp [execOp, ho, hv, Instr.field, run_underlying hu, hfi, asAgg, hoff, hp]
def A1e (d m n : Nat) (ag : Bool) (x i : A) (σ : St) : Option St := match J9 σ x, i with
 | some as, .val (.int _ j) => if 0 ≤ j ∧ j < n ∧ j.toNat * m + m ≤ as.length then some (As d (mkA ag ((as.drop (j.toNat * m)).take m)) σ) else none
 | _, _ => none
theorem A3u {P : Program} {o : Oper} {σ σ' a w O gv N vals fp} {d m n : Nat} {ag : Bool} {t e i i' x x'} (h : Ok σ a w O gv N vals fp) (ho : o.op = .index t x' i') (hd : o.dst = some d) (hN : d < N)
  (hx : Ap N x x' = true) (hii : Ap N i i' = true) (hu : P.underlying t = some (.array n e)) (hf : Pm P e m ag = true) (hg : Apt σ (Ai σ x) = true)
  (hs : A1e d m n ag (Ai σ x) (Ai σ i) σ = some σ') : Bj P o σ' a w O gv N fp := by
 simp only [A1e] at hs
 split at hs
 case h_2 => cases hs
 rename_i as k j has hj
 split at hs
 case isFalse => cases hs
 rename_i hb
 cases hs
 have hri := Am h hii
 rw [hj] at hri
 have hiv : a.eval i' = .int k j := by cases hri with | val _ hr _ => exact Bq hr
 obtain ⟨us, hv, hr⟩ := Akq h (Am h hx) has hg
 have hl := hr.length
 obtain ⟨⟨fi, hfi, hn⟩, _, h1⟩ := Od hf
 refine .rel h hd hN (Ap6 (ag := ag) hr hb.2.2 h1) ?_
 have hp := Asd (P := P) hf w us (j.toNat * m) (by omega)
 simp [execOp, ho, hv, hiv, Instr.index, asIntOf, run_underlying hu, hb.1, hb.2.1, Cr hfi, hn, hp]
def Agp (s : ByteArray) (j : Int) : Int := ((s.data.getD j.toNat 0).toNat : Int)
def Au8 (d : Nat) (x i : A) (σ : St) : Option St := match x, i with
 | .val (.str s), .val (.int _ j) => if 0 ≤ j ∧ j < s.size then some (As d (.val (.int .u8 (Agp s j))) σ) else none
 | _, _ => none
theorem A04 {P : Program} {o : Oper} {σ σ' a w O gv N vals fp} {d : Nat} {t i i' x x'} (h : Ok σ a w O gv N vals fp) (ho : o.op = .index t x' i') (hd : o.dst = some d) (hN : d < N)
  (hx : Ap N x x' = true) (hii : Ap N i i' = true) (hu : P.underlying t = some .string) (hs : Au8 d (Ai σ x) (Ai σ i) σ = some σ') : Bj P o σ' a w O gv N fp := by
 simp only [Au8] at hs
 split at hs
 case h_2 => cases hs
 rename_i s k j hxs hj
 split at hs
 case isFalse => cases hs
 rename_i hb
 cases hs
 have hri := Am h hii
 rw [hj] at hri
 have hiv : a.eval i' = .int k j := by cases hri with | val _ hr _ => exact Bq hr
 have hrx := Am h hx
 rw [hxs] at hrx
 have hxv : a.eval x' = .string s := by cases hrx with | val _ hr _ => exact I8 hr
 refine .rel h hd hN (.val rfl (.leaf (.int _ _) .nil) .nil) ?_
 have hlt : j.toNat < s.size := by omega
 have e : s[j.toNat]? = some (s.data.getD j.toNat 0) := by
  have h1 : j.toNat < s.data.size := hlt
  rw [getElem?_pos s j.toNat hlt]
  simp only [Array.getD]
  rw [dif_pos h1]; rfl
 simp [execOp, ho, hxv, hiv, Instr.index, asIntOf, run_underlying hu, hb.1, e, Agp]
def A1y (d : Nat) (x : A) (σ : St) : Option St := match Gl σ x with
 | some _ => some (As d x σ)
 | none => none
theorem A2v {P : Program} {o : Oper} {σ σ' a w O gv N vals fp} {d : Nat} {x x'} (h : Ok σ a w O gv N vals fp) (ho : o.op = .nilCheck x') (hd : o.dst = some d) (hN : d < N)
  (hx : Ap N x x' = true) (hs : A1y d (Ai σ x) σ = some σ') : Bj P o σ' a w O gv N fp := by
 simp only [A1y] at hs
 split at hs
 case h_2 => cases hs
 rename_i l hl
 cases hs
 have hr := Am h hx
 obtain ⟨b, c, hv, _⟩ := Ru 0 (Lu h hr hl)
 exact .rel h hd hN hr (by simp [execOp, ho, hv])
def A34 (d : Nat) (x y : A) (σ : St) : Option St := match x, y with
 | .val (.int k a), .val (.int _ b) => some (As d (.val (.int k (if b > a then b else a))) σ)
 | _, _ => none
theorem A2x {P : Program} {o : Oper} {σ σ' a w O gv N vals fp} {d : Nat} {x x' y y' ts} (h : Ok σ a w O gv N vals fp) (ho : o.op = .call { callee := .builtin .max, args := #[x', y'], argTypes := ts }) (hd : o.dst = some d) (hN : d < N)
  (hx : Ap N x x' = true) (hy : Ap N y y' = true) (hs : A34 d (Ai σ x) (Ai σ y) σ = some σ') : Bj P o σ' a w O gv N fp := by
 have hrx := Am h hx
 have hry := Am h hy
 unfold A34 at hs
 split at hs
 case h_2 => cases hs
 rename_i k p k' q hex hey
 cases hs
 rw [hex] at hrx; rw [hey] at hry
 have hvx : a.eval x' = .int k p := by cases hrx with | val _ hr _ => exact Bq hr
 have hvy : a.eval y' = .int k' q := by cases hry with | val _ hr _ => exact Bq hr
 exact .rel h hd hN (.val rfl (.leaf (.int _ _) .nil) .nil) (by simp [execOp, ho, resolve, invoke, builtin, hvx, hvy, Builtin.max_, Builtin.max2])
def A1m (f : Nat) (as : List A) : A := match Iw as with
 | some vs => .val (.clo f vs)
 | none => .clo f as
theorem A3q {P : Program} {o : Oper} {σ a w O gv N vals fp} {d f : Nat} {cs : List X} {cs' : Array Operand} (h : Ok σ a w O gv N vals fp) (ho : o.op = .makeFunc (.func f) #[] cs') (hd : o.dst = some d) (hN : d < N)
  (hx : Nl N cs cs'.toList = true) : Bj P o (As d (A1m f (cs.map (Ai σ))) σ) a w O gv N fp := by
 have hr := Ab9 h hx
 have hrun : (execOp a.eval o).run P w = .ok (.value (.func (.func f) #[] (cs'.toList.map a.eval).toArray)) w := by
  simp [execOp, ho, Instr.makeFunc]
  rw [← Array.toList_map]
 refine .rel h hd hN ?_ hrun
 unfold A1m
 split
 ·rename_i vs hv
  obtain ⟨h2, h3⟩ := Am4 hr hv
  exact .val (by simpa [V.hasOwn] using h3) (by simpa using RdL.grp (.clo f vs _) h2 .nil) .nil
 exact .clo hr .nil
end Go.Proofs.YthagmdhmgailfaaGreat.Ax
namespace Go.Proofs.YthagmdhmgailfaaGreat.Ax
open Go
theorem Axr {m : Nat} : ∀ (l : Nat) {xs : List V}, (∀ x ∈ xs, x.cells.length = m) → Bh (xs.drop l) = (Bh xs).drop (l * m) := by
 intro l
 induction l with
 | zero => intro xs _; simp
 | succ l ih =>
   intro xs h
   cases xs with
   | nil => simp [Bh]
   | cons x r =>
     have hx := h x (by simp)
     rw [List.drop_succ_cons, ih fun y hy => h y (by simp [hy])]
     simp only [Bh]
     rw [Nat.succ_mul, Nat.add_comm, ← List.drop_drop, ← hx, List.drop_left]
theorem Axs {m : Nat} : ∀ (l : Nat) {xs : List V}, (∀ x ∈ xs, x.cells.length = m) → Bh (xs.take l) = (Bh xs).take (l * m) := by
 intro l
 induction l with
 | zero => intro xs _; simp [Bh]
 | succ l ih =>
   intro xs h
   cases xs with
   | nil => simp [Bh]
   | cons x r =>
     have hx := h x (by simp)
     rw [List.take_succ_cons]
     simp only [Bh]
     have e1 : List.take (l * m + m) x.cells = x.cells := List.take_of_length_le (by rw [hx]; exact Nat.le_add_left _ _)
     rw [ih fun y hy => h y (by simp [hy]), Nat.succ_mul, List.take_append, hx, Nat.add_sub_cancel, e1]
theorem Att {xs : List V} (h : Ba xs = false) (a b : Nat) : Ba ((xs.drop a).take b) = false := by
 have h1 : Ba (xs.drop a) = false := by
  rw [← List.take_append_drop a xs, G8] at h
  simp only [Bool.or_eq_false_iff] at h; exact h.2
 rw [← List.take_append_drop b (xs.drop a), G8] at h1
 simp only [Bool.or_eq_false_iff] at h1; exact h1.1
theorem A1t {w O xs vs} (h : RdL w O xs vs []) (n : Nat) : RdL w O (xs.drop n) (vs.drop n) [] := by
 have h' := h
 rw [← List.take_append_drop n xs] at h'
 obtain ⟨v1, v2, f1, f2, e1, e2, r1, r2⟩ := RdL.split _ h'
 have l1 := r1.length
 have l0 := h.length
 have ef := List.append_eq_nil_iff.1 e2.symm
 rw [ef.2] at r2
 have : v2 = vs.drop n := by
  by_cases hn : n ≤ xs.length
  ·have hl : v1.length = n := by rw [l1, List.length_take]; omega
   rw [e1, ← hl, List.drop_left]
  ·have hd : xs.drop n = [] := List.drop_eq_nil_of_le (by omega)
   have l2 := r2.length
   rw [hd] at l2
   rw [List.drop_eq_nil_of_le (by omega)]
   exact List.length_eq_zero_iff.1 l2
 rw [← this]; exact r2
theorem A00 {w O xs vs} (h : RdL w O xs vs []) (n : Nat) : RdL w O (xs.take n) (vs.take n) [] := by
 have h' := h
 rw [← List.take_append_drop n xs] at h'
 obtain ⟨v1, v2, f1, f2, e1, e2, r1, r2⟩ := RdL.split _ h'
 have l1 := r1.length
 have l0 := h.length
 have l2 := r2.length
 have ef := List.append_eq_nil_iff.1 e2.symm
 rw [ef.1] at r1
 have : v1 = vs.take n := by
  by_cases hn : n ≤ xs.length
  ·have hl : v1.length = n := by rw [l1, List.length_take]; omega
   rw [e1, ← hl, List.take_left]
  ·have hd : xs.drop n = [] := List.drop_eq_nil_of_le (by omega)
   rw [hd] at l2
   have h2 : v2 = [] := List.length_eq_zero_iff.1 l2
   rw [e1, h2, List.append_nil, List.take_of_length_le (by rw [l1, List.length_take]; omega)]
 rw [← this]; exact r1
theorem A2p {w O m xs v fp} (h : RdL w O [.sl false m xs] [v] fp) {l k : Nat} (hl : l + k ≤ xs.length) :
  ∃ a cap, v = .slice a xs.length cap ∧ xs.length ≤ cap ∧ RdL w O [.sl false m ((xs.drop l).take k)] [sliced a l (l + k) cap m] [] := by
 cases h with
 | leaf h t =>
   cases h with
   | nils =>
     have h1 : l = 0 ∧ k = 0 := by simp at hl; omega
     obtain ⟨rfl, rfl⟩ := h1
     exact ⟨none, 0, rfl, Nat.le_refl _, .leaf (.nils m) .nil⟩
   | empt _ a =>
     have h1 : l = 0 ∧ k = 0 := by simp at hl; omega
     obtain ⟨rfl, rfl⟩ := h1
     exact ⟨some a, 0, rfl, Nat.le_refl _, .leaf (.empt m a) .nil⟩
 | grp h _ _ => cases h
 | oblk h _ _ _ _ _ => cases h
 | @fblk _ _ b off k0 ch vch _ _ _ hh hc hO s t =>
   cases hh with
   | sl _ _ _ _ _ cap hm hcap =>
     refine ⟨some ⟨b, off, none⟩, cap, rfl, hcap, ?_⟩
     have hsl := s.length
     have hfl := O5 hm
     by_cases hcl : cap = l
     ·have hk : k = 0 := by omega
      subst hk
      have e : sliced (some ⟨b, off, none⟩) l (l + 0) cap m = .slice (some ⟨b, off, none⟩) 0 0 := by simp [sliced, hcl]
      rw [e, List.take_zero]
      exact .leaf (.empt m _) .nil
     ·have e : sliced (some ⟨b, off, none⟩) l (l + k) cap m = .slice (some ⟨b, off + l * m, none⟩) ((xs.drop l).take k).length (cap - l) := by
       simp only [sliced, if_neg hcl, Option.map_some, F5]
       congr 1
       rw [List.length_take, List.length_drop]; omega
      rw [e]
      have hm2 : ∀ x ∈ (xs.drop l).take k, x.cells.length = m := fun x hx => hm x (List.mem_of_mem_drop (List.mem_of_mem_take hx))
      have hd := Hdr.sl false m ((xs.drop l).take k) b (off + l * m) (cap - l) hm2 (by rw [List.length_take, List.length_drop]; omega)
      have ef : Bh ((xs.drop l).take k) = ((Bh xs).drop (l * m)).take (k * m) := by
       rw [Axs k fun x hx => hm x (List.mem_of_mem_drop hx), Axr l hm]
      rw [ef] at hd
      refine .fblk (vch := (vch.drop (l * m)).take (k * m)) hd ?_ ⟨?_, Att hO.2 _ _⟩ (A00 (A1t s _) _) .nil
      ·intro i hi
       rw [List.length_take, List.length_drop] at hi
       have := hc (l * m + i) (by omega)
       rw [Nat.add_assoc, this, List.getElem?_take, if_pos (by omega), List.getElem?_drop]
      ·rcases hO.1 with h1 | h1
       ·left; rw [h1]; simp
       ·exact .inr h1
def Ao4 : A → Option Int
 | .val (.int _ n) => some n
 | _ => none
def Acg (dflt : Int) : Option A → Option Int
 | none => some dflt
 | some a => Ao4 a
def Aqc (m : Nat) (cs : List V) : Option A → Option A → Bool
 | none, some (.val (.bool true)) => Nat.beq m (1000000 + cs.length) && cs.all V.isCell
 | _, _ => false
def Atx (d m : Nat) (x : A) (lo hi : Option A) (σ : St) : Option St := match x with
 | .val (.ptr o (.agg cs)) => match o with
   | true => none
   | false => if Aqc m cs lo hi = true then some (As d (.val (.sl false 1 cs)) σ) else none
 | .val (.sl o m' xs) => match o with
   | true => none
   | false => (match Acg 0 lo, Acg xs.length hi with
     | some l, some h => if m' = m ∧ 0 ≤ l ∧ l ≤ h ∧ h ≤ xs.length then some (As d (.val (.sl false m ((xs.drop l.toNat).take (h.toNat - l.toNat)))) σ) else none
     | _, _ => none)
 | _ => none
def Ajw (m : Nat) (x : A) (lo hi : Option A) : Option V := match x with
 | .val (.ptr o (.agg cs)) => match o with
   | true => none
   | false => if Aqc m cs lo hi = true then some (.sl false 1 cs) else none
 | .val (.sl o m' xs) => match o with
   | true => none
   | false => (match Acg 0 lo, Acg xs.length hi with
     | some l, some h => if m' = m ∧ 0 ≤ l ∧ l ≤ h ∧ h ≤ xs.length then some (.sl false m ((xs.drop l.toNat).take (h.toNat - l.toNat))) else none
     | _, _ => none)
 | _ => none
theorem A2b {d m : Nat} {x : A} {lo hi : Option A} {σ : St} : Atx d m x lo hi σ = (Ajw m x lo hi).map fun v => As d (.val v) σ := by
 unfold Atx Ajw
 split
 ·split
  ·rfl
  split <;> rfl
 ·split
  ·rfl
  split
  ·split <;> rfl
  rfl
 rfl
theorem A0x {m : Nat} {x : A} {hi : Option A} : Ajw m x (some .top) hi = none := by
 unfold Ajw
 split
 ·split
  ·rfl
  rfl
 ·split
  ·rfl
  rfl
 rfl
theorem A1j {m : Nat} {x : A} {lo : Option A} : Ajw m x lo (some .top) = none := by
 unfold Ajw
 split
 ·split
  ·rfl
  cases lo <;> rfl
 ·split
  ·rfl
  split
  ·rename_i h; simp [Acg, Ao4] at h
  rfl
 rfl
def Uj (N : Nat) : Option X → Option Operand → Bool
 | none, none => true
 | some x, some o => Ap N x o
 | _, _ => false
theorem Ada {σ a w O gv N vals fp} (h : Ok σ a w O gv N vals fp) {x : X} {x' : Operand} (hx : Ap N x x' = true) {n : Int} (hn : Ao4 (Ai σ x) = some n) : ∃ k, a.eval x' = .int k n := by
 have hr := Am h hx
 unfold Ao4 at hn
 split at hn
 ·rename_i k n' he
  cases hn
  rw [he] at hr
  cases hr with
  | val _ hr _ => exact ⟨k, Bq hr⟩
 cases hn
theorem A31 {P : Program} {o : Oper} {σ σ' a w O gv N vals fp} {d m : Nat} {t x x' e} {lo hi : Option X} {lo' hi' : Option Operand} {fi : TypeInfo} (h : Ok σ a w O gv N vals fp) (ho : o.op = .slice t x' lo' hi' none) (hd : o.dst = some d) (hN : d < N)
  (hx : Ap N x x' = true) (hlo : Uj N lo lo' = true) (hhi : Uj N hi hi' = true) (hu : P.underlying t = some (.slice e)) (hi2 : P.info? e = some fi) (hsz : fi.size = m) (hm6 : m < 1000000)
  (hs : Atx d m (Ai σ x) (lo.map (Ai σ)) (hi.map (Ai σ)) σ = some σ') : Bj P o σ' a w O gv N fp := by
 have hrx := Am h hx
 have hel : P.elem t = e := by simp [Program.elem, hu]
 have hu' : P.underlying t = some (.slice (P.elem t)) := by rw [hel]; exact hu
 unfold Atx at hs
 split at hs
 case h_3 => cases hs
 case h_1 =>
  split at hs
  ·cases hs
  ·split at hs
   ·rename_i hao
    unfold Aqc at hao
    split at hao
    ·have hao2 := Nat.eq_of_beq_eq_true (Bool.and_eq_true _ _ ▸ hao : _ ∧ _).1
     omega
    ·cases hao
   ·cases hs
 rename_i o' m' xs hex
 split at hs
 ·cases hs
 split at hs
 case h_2 => cases hs
 rename_i l hh hl hr
 split at hs
 case isFalse => cases hs
 rename_i hb
 obtain ⟨rfl, b0, b1, b2⟩ := hb
 cases hs
 rw [hex] at hrx
 cases hrx with
 | val hn hr0 _ =>
   obtain ⟨ad, cap, hv, hcap, hres⟩ := A2p hr0 (l := l.toNat) (k := hh.toNat - l.toNat) (by omega)
   have eh : l.toNat + (hh.toNat - l.toNat) = hh.toNat := by omega
   rw [eh] at hres
   have hsize : ∀ w : World, (sizeOf (P.elem t)).run P w = .ok m' w := fun w => by rw [hel, ← hsz]; exact Cr hi2 w
   refine .rel h hd hN (v := sliced ad l.toNat hh.toNat cap m') (.val rfl hres .nil) ?_
   cases lo with
   | none =>
     cases lo' with
     | some _ => simp [Uj] at hlo
     | none =>
       simp only [Option.map_none, Acg, Option.some.injEq] at hl
       subst hl
       cases hi with
       | none =>
         cases hi' with
         | some _ => simp [Uj] at hhi
         | none =>
           simp only [Option.map_none, Acg, Option.some.injEq] at hr
           subst hr
           have e1 := run_slice_all w t ad xs.length cap hu'
           simp [execOp, ho, hv, run_sliceAt_slice _ _ _ _ _ _ hu', e1, hsize]
       | some y =>
         cases hi' with
         | none => simp [Uj] at hhi
         | some y' =>
           simp only [Option.map_some, Acg] at hr
           obtain ⟨k, hk⟩ := Ada h hhi hr
           have e1 := run_slice_h w t ad xs.length cap hu' k hh (by omega) (by omega)
           simp [execOp, ho, hv, hk, run_sliceAt_slice _ _ _ _ _ _ hu', e1, hsize]
   | some y =>
     cases lo' with
     | none => simp [Uj] at hlo
     | some y' =>
       simp only [Option.map_some, Acg] at hl
       obtain ⟨k, hk⟩ := Ada h hlo hl
       cases hi with
       | none =>
         cases hi' with
         | some _ => simp [Uj] at hhi
         | none =>
           simp only [Option.map_none, Acg, Option.some.injEq] at hr
           subst hr
           have e1 := run_slice_l w t ad xs.length cap hu' k l (by omega) (by omega)
           simp [execOp, ho, hv, hk, run_sliceAt_slice _ _ _ _ _ _ hu', e1, hsize]
       | some z =>
         cases hi' with
         | none => simp [Uj] at hhi
         | some z' =>
           simp only [Option.map_some, Acg] at hr
           obtain ⟨k2, hk2⟩ := Ada h hhi hr
           have e1 := run_slice_lh w t ad xs.length cap hu' k k2 l hh (by omega) (by omega) (by omega)
           simp [execOp, ho, hv, hk, hk2, run_sliceAt_slice _ _ _ _ _ _ hu', e1, hsize]
theorem Aj2 : ∀ {cs : List V}, cs.all V.isCell = true → Bh cs = cs
 | [], _ => rfl
 | c :: cs, h => by
   simp only [List.all_cons, Bool.and_eq_true] at h
   have e : c.cells = [c] := by
    cases c <;> first | rfl | exact absurd h.1 (by simp [V.isCell])
   show c.cells ++ Bh cs = c :: cs
   rw [e, Aj2 h.2]; rfl
theorem Asa : ∀ {cs : List V}, cs.all V.isCell = true → ∀ c ∈ cs, c.cells.length = 1
 | [], _, c, hc => by cases hc
 | c0 :: cs, h, c, hc => by
   simp only [List.all_cons, Bool.and_eq_true] at h
   rcases List.mem_cons.1 hc with rfl | hc
   ·cases c <;> first | rfl | exact absurd h.1 (by simp [V.isCell])
   ·exact Asa h.2 c hc
theorem A29 {w O cs v fp} (h : RdL w O [.ptr false (.agg cs)] [v] fp) (hc : cs.all V.isCell = true) :
  ∃ b off, v = .pointer (some ⟨b, off, none⟩) ∧ RdL w O [.sl false 1 cs] [.slice (some ⟨b, off, none⟩) cs.length cs.length] [] := by
 cases h with
 | leaf h _ => cases h
 | grp h _ _ => cases h
 | oblk h _ _ _ _ _ => cases h
 | @fblk _ _ b off k0 ch vch _ _ _ hh hcl hO s t =>
   cases hh with
   | ptr _ _ _ _ =>
     refine ⟨b, off, rfl, ?_⟩
     have hd := Hdr.sl false 1 cs b off cs.length (Asa hc) (Nat.le_refl _)
     rw [Aj2 hc] at hd
     exact .fblk hd hcl hO s .nil
theorem A26 {P : Program} {o : Oper} {σ σ' a w O gv N vals fp} {d m n : Nat} {t x x' e} {fi : TypeInfo} (h : Ok σ a w O gv N vals fp) (ho : o.op = .slice t x' none none none) (hd : o.dst = some d) (hN : d < N)
  (hx : Ap N x x' = true) (hu : P.underlying t = some (.array n e)) (hi2 : P.info? e = some fi) (hsz : fi.size = 1) (hmn : m = 1000000 + n)
  (hs : Atx d m (Ai σ x) none (some (.val (.bool true))) σ = some σ') : Bj P o σ' a w O gv N fp := by
 have hrx := Am h hx
 have hal : P.arrayLen t = n := by simp [Program.arrayLen, hu]
 have hel : P.elem t = e := by simp [Program.elem, hu]
 have hu' : P.underlying t = some (.array (P.arrayLen t) (P.elem t)) := by rw [hal, hel]; exact hu
 unfold Atx at hs
 split at hs
 case h_3 => cases hs
 case h_2 =>
  split at hs
  ·cases hs
  ·split at hs
   ·rename_i hr
    simp [Acg, Ao4] at hr
   ·cases hs
 rename_i o' cs hex
 split at hs
 ·cases hs
 split at hs
 case isFalse => cases hs
 rename_i hao
 cases hs
 simp only [Aqc, Bool.and_eq_true] at hao
 have hcn := Nat.eq_of_beq_eq_true hao.1
 rw [hex] at hrx
 cases hrx with
 | val hn hr0 _ =>
   obtain ⟨b, off, hv, hres⟩ := A29 hr0 hao.2
   have hsize : ∀ w : World, (sizeOf (P.elem t)).run P w = .ok 1 w := fun w => by rw [hel, ← hsz]; exact Cr hi2 w
   refine .rel h hd hN (v := .slice (some ⟨b, off, none⟩) cs.length cs.length) (.val rfl hres .nil) ?_
   have hcl : cs.length = n := by omega
   rw [hcl]
   simp [execOp, ho, hv, hsize, hal, run_sliceAt_array_all, hu', slicedAt, F5]
def Azm (d m : Nat) (x hi : A) (σ : St) : Option St := match Ao4 hi with
 | some h => (match Jg σ x with
   | some (.sl o m' xs, σ2) => if o = true ∧ m' = m ∧ 0 ≤ h ∧ h ≤ xs.length then some (As d (.val (.sl true m ((xs.drop (0 : Int).toNat).take (h.toNat - (0 : Int).toNat)))) σ2) else none
   | _ => none)
 | none => none
theorem A3t {P : Program} {o : Oper} {σ σ' a w O gv N vals fp} {d m : Nat} {t x x' e hi hi'} {fi : TypeInfo} (h : Ok σ a w O gv N vals fp) (ho : o.op = .slice t x' none (some hi') none) (hd : o.dst = some d) (hN : d < N)
  (hx : Ap N x x' = true) (hhi : Ap N hi hi' = true) (hu : P.underlying t = some (.slice e)) (hi2 : P.info? e = some fi) (hsz : fi.size = m)
  (hs : Azm d m (Ai σ x) (Ai σ hi) σ = some σ') : Bj P o σ' a w O gv N fp := by
 have hel : P.elem t = e := by simp [Program.elem, hu]
 have hu' : P.underlying t = some (.slice (P.elem t)) := by rw [hel]; exact hu
 have hsize : ∀ w : World, (sizeOf (P.elem t)).run P w = .ok m w := fun w => by rw [hel, ← hsz]; exact Cr hi2 w
 unfold Azm at hs
 split at hs
 case h_2 => cases hs
 rename_i hh hnum
 split at hs
 case h_2 => cases hs
 rename_i oo m' xs σ2 hX
 split at hs
 case isFalse => cases hs
 rename_i hb
 obtain ⟨rfl, rfl, b1, b2⟩ := hb
 cases hs
 obtain ⟨k, hk⟩ := Ada h hhi hnum
 obtain ⟨fp2, fpX, o2, rX, nX, dX, s2⟩ := Oo h (Am h hx) hX
 have ed : (xs.drop (0 : Int).toNat).take (hh.toNat - (0 : Int).toNat) = xs.take hh.toNat := by simp
 rw [ed]
 have hexec : ∀ ad cap, a.eval x' = .slice ad xs.length cap → hh.toNat ≤ cap → (execOp a.eval o).run P w = .ok (.value (sliced ad 0 hh.toNat cap m')) w := by
  intro ad cap hv hcap
  have e1 := run_slice_h w t ad xs.length cap hu' k hh (by omega) (by omega)
  simp [execOp, ho, hv, hk, run_sliceAt_slice _ _ _ _ _ _ hu', e1, hsize]
 rcases Ao0 rX with ⟨rfl, hvx, efx⟩ | ⟨b, cap, arr, e', fpk, hvx, hbk, hcap, hka, hmX, hf, efx, hO⟩
 ·have h0 : hh = 0 := by simp at b2; omega
  subst h0
  obtain ⟨fp3, o3, s3⟩ := o2.put_own hN (x := .sl true m' []) (v := .slice none 0 0) (fpn := []) (.leaf (.nils1 m') .nil) (by simp) (by simp)
  refine ⟨_, w, O, _, fp3, .inl (hexec none 0 hvx (by simp)), by rw [hd]; simpa [sliced] using o3, (Mv.refl w O _).shrink fun q hq => s2 q ((s3 q hq).resolve_right (by simp))⟩
 subst efx
 have hsp : Bh xs = Bh (xs.take hh.toNat) ++ Bh (xs.drop hh.toNat) := by rw [← Tj, List.take_append_drop]
 rw [hsp] at hf
 obtain ⟨vs1, vs2, fp3, fp4, e1, e2, r1, r2⟩ := RdL.split _ hf
 have hl1 : vs1.length = (Bh (xs.take hh.toNat)).length := r1.length
 have etk : arr.toList.take (Bh (xs.take hh.toNat)).length = vs1 := by
  have := congrArg (List.take (Bh (xs.take hh.toNat)).length) e1
  rw [List.take_take, Nat.min_eq_left (by simp), ← hl1, List.take_left, hl1] at this
  exact this
 have nd3 : (b :: fp3).Nodup := by
  rw [e2] at nX
  exact nX.sublist (List.Sublist.cons_cons _ (List.sublist_append_left _ _))
 have hin : ∀ c ∈ b :: fp3, c ∈ b :: fpk := fun c hc => by
  rw [e2]
  rcases List.mem_cons.1 hc with rfl | hc
  ·exact List.mem_cons_self
  ·exact List.mem_cons_of_mem _ (List.mem_append_left _ hc)
 have hlen : (xs.take hh.toNat).length = hh.toNat := by rw [List.length_take]; omega
 have hhdr := Hdr.sl true m' (xs.take hh.toNat) b 0 cap (fun y hy => hmX y (List.mem_of_mem_take hy)) (by rw [hlen]; omega)
 rw [hlen] at hhdr
 obtain ⟨fp5, o3, s3⟩ := o2.put_own hN (x := .sl true m' (xs.take hh.toNat)) (v := .slice (some ⟨b, 0, none⟩) hh.toNat cap) (fpn := b :: (fp3 ++ []))
  (.oblk hhdr hbk hO hka (by rw [etk]; exact r1) .nil) (by simpa using nd3) (fun c hc => (dX c (hin c (by simpa using hc))).2)
 have ev : sliced (some (⟨b, 0, none⟩ : Addr)) 0 hh.toNat cap m' = .slice (some ⟨b, 0, none⟩) hh.toNat cap := by
  unfold sliced
  simp [Addr.add]
 refine ⟨_, w, O, _, fp5, .inl (hexec _ cap hvx (by omega)), by rw [hd, ev]; exact o3, (Mv.refl w O _).shrink fun q hq => (s3 q hq).elim (s2 q) fun hc => (dX q (hin q (by simpa using hc))).1⟩
def Azf (d : Nat) (x : A) (σ : St) : Option St := match Jg σ x with
 | some (U, σ1) => some (As d (.val U.fz) σ1)
 | none => none
theorem Avl {P : Program} {o : Oper} {σ σ' a w O gv N vals fp} {d : Nat} {x x'} (h : Ok σ a w O gv N vals fp) (ho : o.op = .move x' ∨ o.op = .assign x') (hd : o.dst = some d) (hN : d < N)
  (hx : Ap N x x' = true) (hs : Azf d (Ai σ x) σ = some σ') : Bj P o σ' a w O gv N fp := by
 have hr := Am h hx
 have hrun : (execOp a.eval o).run P w = .ok (.value (a.eval x')) w := by rcases ho with ho | ho <;> simp [execOp, ho]
 unfold Azf at hs
 split at hs
 case h_2 => cases hs
 rename_i U σ1 hU
 cases hs
 obtain ⟨fp1, fpV, o1, rV, nV, dV, s1⟩ := Oo h hr hU
 let O2 : Nat → Prop := fun b => O b ∧ b ∉ fpV
 have o2 : Ok σ1 a w O2 gv N vals fp1 := o1.world (fun b hb _ => ⟨rfl, fun hh => hb hh.1⟩) (fun b hb => ⟨rfl, by
  obtain ⟨s, hs⟩ := hb
  exact (o1.sim.fpO s b hs).1, fun hh => (dV b hh).2 hb⟩)
 have r2 : RdL w O2 [U.fz] [a.eval x'] [] := by
  have := rV.fz (O2 := O2) (fun b hb hh => hh.2 hb) (fun b hb _ hh => hb hh.1)
  simpa [fzL] using this
 obtain ⟨fp2, o3, s3⟩ := o2.put_own hN r2 (by simp) (by simp)
 refine ⟨a.eval x', w, O2, _, fp2, .inl hrun, by rw [hd]; exact o3, ⟨rfl, rfl, rfl, Nat.le_refl _, fun b _ hS => ⟨rfl, ?_⟩, fun b hb => .inl ?_⟩⟩
 ·exact ⟨fun hh => hh.1, fun hh => ⟨hh, fun hv => hS (dV b hv).1⟩⟩
 rcases s3 b hb with h1 | h1
 ·exact s1 b h1
 simp at h1
def Ahy (e : Nat) (σ : St) : St := match look σ (e % 100000) with
 | .val V => As (e % 100000) (.val (V.fzAt (e / 100000))) (As (e % 100000) .top σ)
 | _ => σ
theorem Adw {σ a w O gv N vals fp} (e0 : Nat) (h : Ok σ a w O gv N vals fp) : ∃ O' fp', Ok (Ahy e0 σ) a w O' gv N vals fp' ∧ Mv w O (Sof fp) w O' (Sof fp') := by
 unfold Ahy
 generalize e0 % 100000 = s
 generalize e0 / 100000 = n
 split
 case h_2 => exact ⟨O, fp, h, Mv.refl _ _ _⟩
 rename_i V hV
 have h1 := h.sim.put_top s (vals s)
 rw [Ai7, ← F2] at h1
 obtain ⟨fp1, s1, s2, s3⟩ := RdL.fzAt (h.sim.own s V hV) (h.sim.nd s) n
 have hd : ∀ t b, b ∈ upF fp s [] t → b ∉ fp s := by
  intro t b hb hbs
  simp only [upF] at hb
  split at hb
  ·simp at hb
  ·rename_i hne; exact hne (h.sim.dj t s b hb hbs)
 have hstill : Qw w O w (fun b => O b ∧ (b ∈ fp s → b ∈ fp1)) := fun b hb _ => ⟨rfl, fun hh => hb hh.1⟩
 have h2 := h1.world hstill (fun t b hb => ⟨rfl, (h1.fpO t b hb).1, fun hh => absurd hh (hd t b hb)⟩)
 have hr : RdL w (fun b => O b ∧ (b ∈ fp s → b ∈ fp1)) [V.fzAt n] [vals s] fp1 := by
  have := s3 (fun b => O b ∧ (b ∈ fp s → b ∈ fp1)) (fun b hb => ⟨(h.sim.fpO s b (s1 b hb)).1, fun _ => hb⟩) (fun b hb hn hh => hn (hh.2 hb)) (fun b hb _ hh => hb hh.1)
  rwa [Axe] at this
 have h3 := h2.put_own s (V.fzAt n) fp1 (by rw [Cn]; simp [upF, A.mapR]) hr s2 (fun b hb1 t hb2 => hd t b hb2 (s1 b hb1))
 have e : look (As s (.val (V.fzAt n)) (As s .top σ)) = upF (look (As s .top σ)) s (.val (V.fzAt n)) := by
  rw [Cn]
  funext t
  simp only [upF, Jz]
  split
  ·rfl
  ·rename_i ht
   rw [F2]
   simp only [Jz, if_neg ht]
   generalize look σ t = x
   have key : ∀ r l, Ao s 0 r l = none ∨ Ao s 0 r l = some r := by intro r l; unfold Ao; split <;> simp
   exact Wg (Ao s 0) key x
 rw [← e] at h3
 refine ⟨_, _, ⟨h3, h.lo, h.hi, h.sz, h.df⟩, ⟨rfl, rfl, rfl, Nat.le_refl _, ?_, ?_⟩⟩
 ·intro b _ hb
  exact ⟨rfl, ⟨fun hh => hh.1, fun hh => ⟨hh, fun hc => absurd ⟨s, hc⟩ hb⟩⟩⟩
 rintro b ⟨t, ht⟩
 left
 simp only [upF] at ht
 split at ht
 ·exact ⟨s, s1 b ht⟩
 exact ⟨t, ht⟩
theorem Bj.frzd {P : Program} {o : Oper} {σ a w O gv N fp} {d : Nat} {U : V} (hd : d < 100000) (h : Bj P o (As d (.val U) σ) a w O gv N fp) : Bj P o (As d (.val U.fz) σ) a w O gv N fp := by
 obtain ⟨v, w', O', vals', fp', h1, h2, h3⟩ := h
 obtain ⟨O2, fp2, k1, k2⟩ := Adw d h2
 have e0 : d % 100000 = d := Nat.mod_eq_of_lt hd
 have e1 : d / 100000 = 0 := Nat.div_eq_of_lt hd
 have hl : look (As d (.val U) σ) d = .val U := by rw [Cn]; simp [upF, A.mapR]
 have e2 : look (Ahy d (As d (.val U) σ)) = look (As d (.val U.fz) σ) := by
  unfold Ahy
  rw [e0, e1, hl]
  simp only [Bp]
  rw [Cn, F2, Cn, Cn]
  funext t
  simp only [upF, Jz, A.mapR]
  by_cases ht : t = d
  ·simp [ht]
  ·simp only [if_neg ht]
   generalize (look σ t) = x
   have key : ∀ r l, Ao d 0 r l = none ∨ Ao d 0 r l = some r := by intro r l; unfold Ao; split <;> simp
   have := Wg (Ao d 0) key x
   simp_all
 exact ⟨v, w', O2, vals', fp2, h1, ⟨e2 ▸ k1.sim, k1.lo, k1.hi, k1.sz, k1.df⟩, h3.trans k2⟩
def A18 (d m : Nat) (z : V) (x : A) (σ : St) : Option St := match x with
 | .val (.int _ n) => if 0 ≤ n ∧ n ≤ (LIM : Int) then some (As d (.val (V.sl true m (List.replicate n.toNat z.up)).fz) σ) else none
 | _ => none
theorem Axm {d m z x σ σ'} (h : A18 d m z x σ = some σ') : ∃ U σ1, mkS d m z x σ = some (As d (.val U) σ1) ∧ σ' = As d (.val U.fz) σ1 := by
 unfold A18 at h
 split at h
 ·split at h
  ·rename_i hc; cases h; exact ⟨_, _, by simp only [mkS]; rw [if_pos hc], rfl⟩
  cases h
 cases h
def Avp (d m : Nat) (xs : List A) (σ : St) : Option St := match M2 σ xs with
 | some (Us, σ1) => if Pp m Us then some (As d (.val (V.sl true m Us).fz) σ1) else none
 | none => none
theorem Ato {d m xs σ σ'} (h : Avp d m xs σ = some σ') : ∃ U σ1, Aql d m xs σ = some (As d (.val U) σ1) ∧ σ' = As d (.val U.fz) σ1 := by
 unfold Avp at h
 split at h
 ·rename_i hU
  split at h
  ·rename_i hc; cases h; exact ⟨_, _, by simp only [Aql, hU]; rw [if_pos hc], rfl⟩
  cases h
 cases h
def F3 {β : Type} : List (ByteArray × β) → ByteArray → Option β
 | [], _ => none
 | (a, b) :: r, k => if k = a then some b else F3 r k
def Km {β : Type} : List (ByteArray × β) → ByteArray → β → List (ByteArray × β)
 | [], k, v => [(k, v)]
 | (a, b) :: r, k, v => if k = a then (a, v) :: r else (a, b) :: Km r k v
theorem Af3 {β γ : Type} (f : β → γ) (k : ByteArray) : ∀ (l : List (ByteArray × β)), F3 (l.map fun e => (e.1, f e.2)) k = (F3 l k).map f
 | [] => rfl
 | (a, b) :: r => by
   simp only [List.map_cons, F3]
   split
   ·rfl
   ·exact Af3 f k r
theorem Ank {β γ : Type} (f : β → γ) (k : ByteArray) (v : β) : ∀ (l : List (ByteArray × β)), Km (l.map fun e => (e.1, f e.2)) k (f v) = (Km l k v).map fun e => (e.1, f e.2)
 | [] => rfl
 | (a, b) :: r => by
   simp only [List.map_cons, Km]
   split
   ·rfl
   ·simp only [List.map_cons]; rw [Ank f k v r]
def Lf.v : Lf → V
 | .int k n => .int k n
 | .bool b => .bool b
 | .str s => .str s
def vLf : V → Option Lf
 | .int k n => some (.int k n)
 | .bool b => some (.bool b)
 | .str s => some (.str s)
 | _ => none
theorem Lf.rd (w : World) (O : Nat → Prop) (x : Lf) : RdL w O [x.v] [x.val] [] ∧ x.v.hasOwn = false := by
 cases x with
 | int k n => exact ⟨.leaf (.int _ _) .nil, rfl⟩
 | bool b => exact ⟨.leaf (.bool _) .nil, rfl⟩
 | str s => exact ⟨.leaf (.str _) .nil, rfl⟩
theorem Azx {w O u x v fp} (h : RdL w O [u] [v] fp) (hx : vLf u = some x) : v = x.val := by
 cases u <;> simp [vLf] at hx <;> subst hx
 ·exact Bq h
 ·exact E4 h
 exact I8 h
theorem Lf.wide (x : Lf) : x.val.oneCell' = true := by cases x <;> rfl
def Yp (L : List MapEntry) (es : List (ByteArray × Lf)) : Prop := L.map (fun e => (e.key, e.val)) = es.map fun e => (Value.string e.1, e.2.val)
theorem Abr (k : ByteArray) : ∀ (L : List MapEntry) (es : List (ByteArray × Lf)) (i : Nat), Yp L es →
  (F3 es k = none ∧ Instr.findNow .string (.string k) L i = some none ∧ ∀ v, Km es k v = es ++ [(k, v)]) ∨
  ∃ j b e, F3 es k = some b ∧ Instr.findNow .string (.string k) L i = some (some (i + j, b.val)) ∧ L[j]? = some e ∧ e.key = .string k ∧
    ∀ v : Lf, Yp (L.modify j fun e => { e with key := .string k, val := v.val }) (Km es k v)
 | [], es, i, h => by
   have : es = [] := by
    cases es with
    | nil => rfl
    | cons a r => simp [Yp] at h
   subst this
   exact .inl ⟨rfl, rfl, fun _ => rfl⟩
 | e :: L, es, i, h => by
   cases es with
   | nil => simp [Yp] at h
   | cons a es =>
     obtain ⟨a1, a2⟩ := a
     simp only [Yp, List.map_cons, List.cons.injEq, Prod.mk.injEq] at h
     obtain ⟨⟨h1, h2⟩, h3⟩ := h
     by_cases hk : k = a1
     ·subst hk
      refine .inr ⟨0, a2, e, by simp [F3], ?_, rfl, h1, fun v => ?_⟩
      ·have : (k == k) = true := (Go.MapKept.bytes_beq k k).2 rfl
       simp [Instr.findNow, h1, h2, Instr.sameNow, this]
      ·simp only [Yp, Km, if_true, List.modify_zero_cons, List.map_cons, List.cons.injEq, true_and]
       exact h3
     ·have hb : (k == a1) = false := by
       cases hc : k == a1 with
       | false => rfl
       | true => exact absurd ((Go.MapKept.bytes_beq k a1).1 hc) hk
      rcases Abr k L es (i + 1) h3 with ⟨g1, g2, g3⟩ | ⟨j, b, e', g1, g2, g3, g4, g5⟩
      ·refine .inl ⟨by simp [F3, hk, g1], by simp [Instr.findNow, h1, Instr.sameNow, hb, g2], fun v => ?_⟩
       simp only [Km, if_neg hk, g3, List.cons_append]
      ·refine .inr ⟨j + 1, b, e', by simp [F3, hk, g1], ?_, by simpa using g3, g4, fun v => ?_⟩
       ·simp [Instr.findNow, h1, Instr.sameNow, hb, g2]; omega
       ·have := g5 v
        simp only [Yp] at this ⊢
        simp only [Km, if_neg hk, List.modify_succ_cons, List.map_cons, h1, h2]
        rw [this]
def Ar1 : V → Option ByteArray
 | .str s => some s
 | _ => none
def mpA (σ : St) : A → Option (List (ByteArray × Lf))
 | .val (.mp o es) => if o then none else some es
 | .ref r p => match Bu σ r p with
   | some (.mp _ es) => some es
   | _ => none
 | _ => none
theorem Ayz {w O o es v fp} (h : RdL w O [.mp o es] [v] fp) : ∃ b ents ck, v = .map (some b) ∧ w.heap[b]? = some (.map ents ck) ∧ Yp ents.toList es ∧ (o = true → O b ∧ fp = [b]) ∧ (o = false → ¬ O b ∧ fp = []) := by
 cases h with
 | leaf hl _ => cases hl
 | grp hg _ _ => cases hg
 | fblk hh _ _ _ _ => cases hh
 | oblk hh _ _ _ _ _ => cases hh
 | mpf hb he hO t => cases t; exact ⟨_, _, _, rfl, hb, he, fun e => Bool.noConfusion e, fun _ => ⟨hO, rfl⟩⟩
 | mpo hb he hO t => cases t; exact ⟨_, _, _, rfl, hb, he, fun _ => ⟨hO, rfl⟩, fun e => Bool.noConfusion e⟩
theorem A3f {σ a w O gv N vals fp} (h : Ok σ a w O gv N vals fp) {x : A} {v : Value} {es : List (ByteArray × Lf)} (hr : RelL w O (look σ) vals [x] [v]) (hm : mpA σ x = some es) :
  ∃ b ents ck, v = .map (some b) ∧ w.heap[b]? = some (.map ents ck) ∧ Yp ents.toList es := by
 cases hr with
 | top _ => simp [mpA] at hm
 | agg _ _ => simp [mpA] at hm
 | clo _ _ => simp [mpA] at hm
 | addr _ _ _ _ _ _ => simp [mpA] at hm
 | fad _ _ _ _ => simp [mpA] at hm
 | @val y _ _ _ hn hr _ =>
   cases y <;> simp [mpA] at hm
   obtain ⟨_, rfl⟩ := hm
   obtain ⟨b, ents, ck, e1, e2, e3, _⟩ := Ayz hr
   exact ⟨b, ents, ck, e1, e2, e3⟩
 | @ref r p T u _ _ _ hL hs hv _ =>
   simp only [mpA, Bu, hL, hs] at hm
   cases u <;> simp at hm
   subst hm
   obtain ⟨x, fp1, fpu, fp2, _, hx, hru, _⟩ := ctx p (h.sim.own r T hL) hs
   rw [hv] at hx; cases hx
   obtain ⟨b, ents, ck, e1, e2, e3, _⟩ := Ayz hru
   exact ⟨b, ents, ck, e1, e2, e3⟩
def A4i (d : Nat) (σ : St) : Option St := some (As d (.val (.mp true [])) σ)
theorem A3n {P : Program} {o : Oper} {σ a w O gv N vals fp} {d : Nat} {t : TypeId} (h : Ok σ a w O gv N vals fp) (ho : o.op = .makeMap t none) (hd : o.dst = some d) (hN : d < N) : Bj P o (As d (.val (.mp true [])) σ) a w O gv N fp := by
 let w' := w.alloc (.map #[] 0)
 let O' : Nat → Prop := fun b => O b ∨ b = w.heap.size
 have hw : w'.heap = w.heap.push (.map #[] 0) := rfl
 have hold : ∀ b, b < w.heap.size → w'.heap[b]? = w.heap[b]? := fun b hb => by rw [hw]; exact Ve w _ b hb
 have hstill : Qw w O w' O' := fun b hb hlt => ⟨hold b hlt, by simp [O']; exact ⟨hb, by omega⟩⟩
 have hlt1 : ∀ b, Sof fp b → O b ∧ b < w.heap.size := fun b ⟨s, hs⟩ => h.sim.fpO s b hs
 have o1 : Ok σ a w' O' gv N vals fp := h.world hstill fun b hb => ⟨hold b (hlt1 b hb).2, .inl (hlt1 b hb).1⟩
 have hblk : w'.heap[w.heap.size]? = some (.map #[] 0) := by rw [hw]; simp
 have hread : RdL w' O' [.mp true []] [.map (some w.heap.size)] [w.heap.size] := .mpo hblk rfl (.inr rfl) .nil
 obtain ⟨fp', o2, s2⟩ := o1.put_own hN hread (by simp) (by
  intro b hb hb1
  rw [List.mem_singleton.1 hb] at hb1
  have := (hlt1 _ hb1).2; omega)
 refine ⟨.map (some w.heap.size), w', O', _, fp', .inl (by simp [execOp, ho, Instr.makeMap, w', Result.andThen]), by rw [hd]; exact o2, ⟨rfl, rfl, rfl, by rw [hw]; simp, ?_, ?_⟩⟩
 ·intro b hb _
  exact ⟨hold b hb, by simp [O']; omega⟩
 intro b hb
 rcases s2 b hb with h | h
 ·exact .inl h
 rw [List.mem_singleton.1 h]; exact .inr (Nat.le_refl _)
def Atu (es : List (ByteArray × Lf)) (k : ByteArray) (z : Lf) (ok : Bool) : V := if ok then .tup [((F3 es k).getD z).v, .bool (F3 es k).isSome] else ((F3 es k).getD z).v
def A1r (d : Nat) (x k : A) (z : Lf) (ok : Bool) (σ : St) : Option St := match mpA σ x, (D2 k).bind Ar1 with
 | some es, some s => some (As d (.val (Atu es s z ok)) σ)
 | _, _ => none
theorem A3l {P : Program} {o : Oper} {σ σ' a w O gv N vals fp} {d : Nat} {t kt et x x' k k' z ok zv} {fi : TypeInfo} (h : Ok σ a w O gv N vals fp) (ho : o.op = .lookup t x' k' ok) (hd : o.dst = some d) (hN : d < N)
  (ht : P.underlying t = some (.map kt et)) (hkt : P.underlying kt = some .string) (hi : P.info? et = some fi) (hz : fi.zero = some zv) (hc : cRd z.v zv = true)
  (hx : Ap N x x' = true) (hk : Ap N k k' = true) (hs : A1r d (Ai σ x) (Ai σ k) z ok σ = some σ') : Bj P o σ' a w O gv N fp := by
 simp only [A1r] at hs
 split at hs
 case h_2 => cases hs
 rename_i es s hes hss
 cases hs
 obtain ⟨b, ents, ck, e1, e2, e3⟩ := A3f h (Am h hx) hes
 obtain ⟨u, hu, hus⟩ := Option.bind_eq_some_iff.1 hss
 obtain ⟨ru, _⟩ := Nt (Am h hk) hu
 have ek : a.eval k' = .string s := by
  cases u <;> simp [Ar1] at hus
  subst hus
  exact I8 ru
 have ezv : zv = z.val := Azx (Ako w O z.v zv hc).1 (by cases z <;> rfl)
 have hrd := (Lf.rd w O ((F3 es s).getD z))
 have hval : RelL w O (look σ) vals [.val (Atu es s z ok)] [if ok = true then .tuple #[((F3 es s).getD z).val, .bool (F3 es s).isSome] else ((F3 es s).getD z).val] := by
  unfold Atu
  cases ok with
  | false => simp only [Bool.false_eq_true, if_false]; exact .val hrd.2 hrd.1 .nil
  | true =>
    simp only [if_true]
    refine .val (by simp [V.hasOwn, Ba, hrd.2]) ?_ .nil
    have := RdL.grp (.tup [((F3 es s).getD z).v, .bool (F3 es s).isSome] [((F3 es s).getD z).val, .bool (F3 es s).isSome]) (hrd.1.cons_join (.leaf (.bool _) .nil)) (.nil (w := w) (O := O))
    simpa using this
 refine .rel h hd hN hval ?_
 have hck := Go.MapKept.run_checkKey (P := P) (w := w) (kt := kt) (d := .string) (k := .string s) hkt trivial ents.isEmpty 9999
 rcases Abr s ents.toList es 0 e3 with ⟨g1, g2, _⟩ | ⟨j, lb, e, g1, g2, _, _, _⟩
 ·have hf := Go.MapKept.run_findKey (P := P) (w := w) hkt g2
  simp [execOp, ho, e1, ek, Instr.lookup, run_underlying ht, Go.MapKept.run_getObj_map e2, hck, hf, zeroValue, typeInfo, hi, hz, ezv, g1, Result.andThen]
 have hf := Go.MapKept.run_findKey (P := P) (w := w) hkt g2
 simp [execOp, ho, e1, ek, Instr.lookup, run_underlying ht, Go.MapKept.run_getObj_map e2, hck, hf, g1, Result.andThen]
def A2h (m k v : A) (σ : St) : Option St := match m with
 | .ref r p => match look σ r with
   | .val T => match sub p T with
     | some (.mp true es) => match (D2 k).bind Ar1, (D2 v).bind vLf with
       | some s, some x => match upd p T (.mp true (Km es s x)) with
         | some T' => some (Mk r T' (p.length + 1) σ)
         | none => none
       | _, _ => none
     | _ => none
   | _ => none
 | _ => none
theorem Az9 {P : Program} {o : Oper} {σ σ' a w O gv N vals fp} {t kt et m m' k k' v v'} (h : Ok σ a w O gv N vals fp) (ho : o.op = .mapUpdate t m' k' v' ∨ o.op = .insert t m' k' v') (hd : o.dst = none)
  (ht : P.underlying t = some (.map kt et)) (hkt : P.underlying kt = some .string)
  (hm : Ap N m m' = true) (hk : Ap N k k' = true) (hv : Ap N v v' = true) (hs : A2h (Ai σ m) (Ai σ k) (Ai σ v) σ = some σ') : Bj P o σ' a w O gv N fp := by
 have hrel := Am h hm
 simp only [A2h] at hs
 split at hs
 case h_2 => cases hs
 rename_i r p em
 split at hs
 case h_2 => cases hs
 rename_i T hT
 split at hs
 case h_2 => cases hs
 rename_i es hnd
 split at hs
 case h_2 => cases hs
 rename_i s x hss hxx
 split at hs
 case h_2 => cases hs
 rename_i T' hT'
 cases hs
 obtain ⟨u, hu, hus⟩ := Option.bind_eq_some_iff.1 hss
 obtain ⟨ru, _⟩ := Nt (Am h hk) hu
 have ek : a.eval k' = .string s := by
  cases u <;> simp [Ar1] at hus
  subst hus
  exact I8 ru
 obtain ⟨u2, hu2, hus2⟩ := Option.bind_eq_some_iff.1 hxx
 obtain ⟨ru2, _⟩ := Nt (Am h hv) hu2
 have ev := Azx ru2 hus2
 rw [em] at hrel
 cases hrel with
 | @ref _ _ T2 nd _ _ _ hL hs2 hval _ =>
 rw [hT] at hL; cases hL
 rw [hnd] at hs2; cases hs2
 have hR := h.sim.own r T hT
 obtain ⟨x0, f1, fu, f2, efp, hx0, hru, hset⟩ := ctx p hR hnd
 rw [hval] at hx0; cases hx0
 obtain ⟨b, ents, ck, e1, e2, e3, e4, _⟩ := Ayz hru
 obtain ⟨hO, rfl⟩ := e4 rfl
 have hbr : b ∈ fp r := by rw [efp]; simp
 have hnodup := h.sim.nd r
 rw [efp] at hnodup
 have nd1 := List.nodup_append.1 hnodup
 have nd2 := List.nodup_append.1 nd1.2.1
 have key : ∀ (ents' : Array MapEntry) (ck' : Nat), Yp ents'.toList (Km es s x) → (execOp a.eval o).run P w = .ok .skip { w with heap := w.heap.setIfInBounds b (.map ents' ck') } → Bj P o (Mk r T' (p.length + 1) σ) a w O gv N fp := by
  intro ents' ck' hents hrun
  let w' : World := { w with heap := w.heap.setIfInBounds b (.map ents' ck') }
  obtain ⟨hb', hother⟩ := Go.MapKept.heap_set (o' := .map ents' ck') e2
  have hstill : Qw w O w' O := fun q hq _ => ⟨hother q (fun e => hq (e ▸ hO)), hq⟩
  have hnode' : RdL w' O [.mp true (Km es s x)] [a.eval m'] [b] := by rw [e1]; exact .mpo hb' hents hO .nil
  have hrest : ∀ q ∈ f1 ++ f2, w'.heap[q]? = w.heap[q]? ∧ O q := by
   intro q hq
   have hqr : q ∈ fp r := by rw [efp]; simp at hq ⊢; rcases hq with h | h <;> simp [h]
   refine ⟨hother q ?_, (h.sim.fpO r q hqr).1⟩
   rintro rfl
   rcases List.mem_append.1 hq with h | h
   ·exact nd1.2.2 q h q (by simp) rfl
   ·exact nd2.2.2 q (by simp) q h rfl
  have hRT := hset w' O T' _ [b] hT' hrest hstill hnode'
  have hsim := h.sim.turn r (p.length + 1) T T' _ hT hstill (fun s hs q hq => ⟨hother q (by rintro rfl; exact hs (h.sim.dj s r q hq hbr)), (h.sim.fpO s q hq).1⟩) hRT hnodup
   (by
    intro q hq s hs hqs
    exact hs (h.sim.dj s r q hqs (by rw [efp]; exact hq)))
   (by
    intro q u v hlt hq hvq
    obtain ⟨u2, h2, h3⟩ := Apo p q hq hnd hT' (by omega) (fun _ hn => by simp [V.node] at hn)
    refine ⟨u2, h2, h3, ?_⟩
    rw [Aby p q hR (h.sim.nd r) hnd hq (by omega) hval hru (fun z hz hzn => hother z (by rintro rfl; exact hzn (by simp)))]
    exact hvq)
  rw [← Qr hT] at hsim
  refine ⟨undef, w', O, vals, upF fp r (f1 ++ ([b] ++ f2)), .inr ⟨hrun, rfl⟩, ?_, ?_⟩
  ·rw [hd]
   exact ⟨hsim, h.lo, h.hi, h.sz, h.df⟩
  ·refine ⟨rfl, rfl, rfl, by simp [w'], ?_, ?_⟩
   ·intro q _ hq
    exact ⟨hother q (by rintro rfl; exact hq ⟨r, hbr⟩), .rfl⟩
   ·rintro q ⟨s, hs⟩
    left
    simp only [upF] at hs
    split at hs
    ·exact ⟨r, by rw [efp]; exact hs⟩
    ·exact ⟨s, hs⟩
 have hck := Go.MapKept.run_checkKey (P := P) (w := w) (kt := kt) (d := .string) (k := .string s) hkt trivial false 9999
 rcases Abr s ents.toList es 0 e3 with ⟨g1, g2, g3⟩ | ⟨j, lb, e, g1, g2, g4, g5, g6⟩
 ·have hf := Go.MapKept.run_findKey (P := P) (w := w) hkt g2
  refine key (ents.push { key := .string s, val := x.val, born := ck }) (ck + 1) ?_ ?_
  ·rw [g3]; simp only [Yp, Array.toList_push, List.map_append, List.map_cons, List.map_nil]; rw [e3]
  rcases ho with ho | ho <;> simp [execOp, ho, e1, ek, ev, Instr.mapUpdate, run_underlying ht, Go.MapKept.run_getObj_map e2, hck, hf, Go.MapKept.run_setObj_map _ e2, Result.andThen]
 have hf := Go.MapKept.run_findKey (P := P) (w := w) hkt g2
 have hkey : (((ents[j]?).map (·.key)).getD (.string s)) = .string s := by
  rw [← Array.getElem?_toList, g4]; exact g5
 have hstay := Go.MapKept.run_keyThatStays (P := P) (w := w) (d := .string) (k := .string s) trivial
 refine key (ents.modify j fun e => { e with key := .string s, val := x.val }) ck ?_ ?_
 ·rw [Array.toList_modify]; exact g6 x
 rcases ho with ho | ho
 ·simp [execOp, ho, e1, ek, ev, Instr.mapUpdate, run_underlying ht, Go.MapKept.run_getObj_map e2, hck, hf, Result.andThen]
  rw [hkey, hstay]
  simp [Go.MapKept.run_setObj_map _ e2]
 simp [execOp, ho, e1, ek, ev, Instr.mapUpdate, run_underlying ht, Go.MapKept.run_getObj_map e2, hck, hf, Result.andThen]
 rw [hkey, hstay]
 simp [Go.MapKept.run_setObj_map _ e2]
def Xs (ns : List Int) : ByteArray := ns.foldl (fun r n => r.push (UInt8.ofNat n.toNat)) ByteArray.empty
def Pv : List V → Option (List Int)
 | [] => some []
 | .int k n :: r => if k = .u8 then (Pv r).map (n :: ·) else none
 | _ => none
theorem At2 (ns : List Int) : Pv (ns.map (V.int .u8)) = some ns := by
 induction ns with
 | nil => rfl
 | cons n r ih => simp [Pv, ih]
theorem Amq {w O} : ∀ {xs : List V} {ns : List Int} {vch fp}, Pv xs = some ns → RdL w O (Bh xs) vch fp → vch = ns.map (Value.int .u8) ∧ ns.length = xs.length := by
 intro xs
 induction xs with
 | nil => intro ns vch fp h hr; simp [Pv] at h; subst h; simp only [Bh] at hr; cases hr; exact ⟨rfl, rfl⟩
 | cons x r ih =>
   intro ns vch fp h hr
   cases x <;> simp [Pv] at h
   rename_i k n
   obtain ⟨rfl, ms, h1, rfl⟩ := h
   simp only [Bh, V.cells, List.cons_append, List.nil_append] at hr
   obtain ⟨v, vs2, f1, f2, rfl, rfl, r1, r2⟩ := hr.cons_split
   obtain ⟨e1, e2⟩ := ih h1 r2
   exact ⟨by rw [Bq r1, e1]; rfl, by simp [e2]⟩
def slA (σ : St) : A → Option (Nat × List V)
 | .val (.sl o m xs) => if o then none else some (m, xs)
 | .ref r p => match Bu σ r p with
   | some (.sl _ m xs) => some (m, xs)
   | _ => none
 | _ => none
theorem A3v {σ a w O gv N vals fp} (h : Ok σ a w O gv N vals fp) {x : A} {v : Value} {m : Nat} {xs : List V} (hr : RelL w O (look σ) vals [x] [v]) (hm : slA σ x = some (m, xs)) : ∃ o fp1, RdL w O [.sl o m xs] [v] fp1 := by
 cases hr with
 | top _ => simp [slA] at hm
 | agg _ _ => simp [slA] at hm
 | clo _ _ => simp [slA] at hm
 | addr _ _ _ _ _ _ => simp [slA] at hm
 | fad _ _ _ _ => simp [slA] at hm
 | @val y _ _ _ hn hr _ =>
   cases y <;> simp [slA] at hm
   obtain ⟨_, rfl, rfl⟩ := hm
   exact ⟨_, _, hr⟩
 | @ref r p T u _ _ _ hL hs hv _ =>
   simp only [slA, Bu, hL, hs] at hm
   cases u <;> simp at hm
   obtain ⟨rfl, rfl⟩ := hm
   obtain ⟨x, fp1, fpu, fp2, _, hx, hru, _⟩ := ctx p (h.sim.own r T hL) hs
   rw [hv] at hx; cases hx
   exact ⟨_, _, hru⟩
theorem Azi {w O o xs v fp ns} (h : RdL w O [.sl o 1 xs] [v] fp) (hb : Pv xs = some ns) : ∃ q c, v = .slice q ns.length c ∧ (q = none → ns = []) ∧ ∀ a, q = some a → ∀ j u, (ns.map (Value.int .u8))[j]? = some u → w.cell? (a.add j) = some u := by
 cases h with
 | leaf hl _ =>
   cases hl <;> (simp [Pv] at hb; subst hb)
   ·exact ⟨none, 0, rfl, fun _ => rfl, fun a e => by cases e⟩
   ·exact ⟨_, 0, rfl, fun _ => rfl, fun a _ j u hj => by simp at hj⟩
   ·exact ⟨none, 0, rfl, fun _ => rfl, fun a e => by cases e⟩
 | grp hg _ _ => cases hg
 | fblk hh hc hO s _ =>
   cases hh with
   | sl _ _ _ b off cap hm hcap =>
     obtain ⟨e1, e2⟩ := Amq hb s
     refine ⟨_, cap, by rw [e2], fun e => by (cases e), fun a ha j u hj => ?_⟩
     cases ha
     rw [F5, hc j (by rw [e1]; exact (List.getElem?_eq_some_iff.1 hj).1), e1, hj]
 | @oblk _ _ b k ch arr e fp1 _ _ fp2 hh hb2 hO hk s _ =>
   cases hh with
   | sl _ _ _ _ _ cap hm hcap =>
     obtain ⟨e1, e2⟩ := Amq hb s
     refine ⟨_, cap, by rw [e2], fun e => by (cases e), fun a ha j u hj => ?_⟩
     cases ha
     have hj' := hj
     rw [← e1, List.getElem?_take] at hj'
     split at hj'
     ·rw [F5]; simp [World.cell?, hb2]; rw [← Array.getElem?_toList]; exact hj'
     ·cases hj'
def Ava (d : Nat) (x : A) (σ : St) : Option St := match slA σ x with
 | some (m, xs) => if m = 1 then (Pv xs).map fun ns => As d (.val (.str (Xs ns))) σ else none
 | none => none
theorem A14 {P : Program} {o : Oper} {σ σ' a w O gv N vals fp} {d : Nat} {s t e x x'} (h : Ok σ a w O gv N vals fp) (ho : o.op = .convert s t x') (hd : o.dst = some d) (hN : d < N)
  (hsrc : P.underlying s = some (.slice e)) (he : P.underlying e = some (.int .u8)) (hdst : P.underlying t = some .string) (hx : Ap N x x' = true) (hs : Ava d (Ai σ x) σ = some σ') : Bj P o σ' a w O gv N fp := by
 simp only [Ava] at hs
 split at hs
 case h_2 => cases hs
 rename_i m xs hsl
 split at hs
 case isFalse => cases hs
 rename_i hm
 subst hm
 obtain ⟨ns, hb, rfl⟩ := Option.map_eq_some_iff.1 hs
 obtain ⟨o', fp1, hr⟩ := A3v h (Am h hx) hsl
 obtain ⟨q, c, e1, e2, e3⟩ := Azi hr hb
 refine .rel h hd hN (.val rfl (.leaf (.str (Xs ns)) .nil) .nil) ?_
 have hrun : (Conv.bytesToString (.slice q ns.length c)).run P w = .ok (.string (Xs ns)) w := by
  cases q with
  | none => rw [e2 rfl]; rfl
  | some a1 =>
    refine run_bytesToString w a1 ns.length c ns ?_
    have := run_loadCells_list (P := P) (w := w) a1 (ns.map (Value.int .u8)) (e3 a1 rfl)
    simpa using this
 simp [execOp, ho, e1, run_convert_bytes_string w s t e q ns.length c hsrc he hdst, hrun, Result.andThen]
end Go.Proofs.YthagmdhmgailfaaGreat.Ax
namespace Go.Proofs.YthagmdhmgailfaaGreat.Ax
open Go
def V.isBool : V → Bool
 | .bool _ => true
 | _ => false
def A25 (d : Nat) (op : BinOp) (x y : A) (σ : St) : Option St := match D2 x with
 | some u => if u.isBool then none else Av2 d op x y σ
 | none => none
def B1 : AOp → St → Option St
 | .mov d x, σ => some (As d (upA (Ai σ x)) σ)
 | .asg d x, σ => Aqi d (Ai σ x) σ
 | .asgf d x, σ => Azf d (Ai σ x) σ
 | .slc d m x lo hi, σ => Atx d m (Ai σ x) (lo.map (Ai σ)) (hi.map (Ai σ)) σ
 | .pick d c x y, σ => Amv d (Ai σ c) (Ai σ x) (Ai σ y) σ
 | .bin d op x y, σ => A25 d op (Ai σ x) (Ai σ y) σ
 | .binb d op x y, σ => Av2 d op (Ai σ x) (Ai σ y) σ
 | .un d op x, σ => unS d op (Ai σ x) σ
 | .cnv d k x, σ => A1g d k (Ai σ x) σ
 | .len d x, σ => A3e d (Ai σ x) σ
 | .slen d x, σ => Aqq d (Ai σ x) σ
 | .sidx d x i, σ => Au8 d (Ai σ x) (Ai σ i) σ
 | .max d x y, σ => A34 d (Ai σ x) (Ai σ y) σ
 | .ext d x i, σ => Aq4 d (Ai σ x) i σ
 | .iad d m x i, σ => Aym d m (Ai σ x) (Ai σ i) σ
 | .aad d m n x i, σ => A2f d m n (Ai σ x) (Ai σ i) σ
 | .fadr d off x, σ => Avc d off (Ai σ x) σ
 | .ld d n ag x, σ => ldS d n ag (Ai σ x) σ
 | .st n x v, σ => Aps σ n x v
 | .fld d off n ag x, σ => if Apt σ (Ai σ x) then A3p d off n ag (Ai σ x) σ else none
 | .idx d m n ag x i, σ => if Apt σ (Ai σ x) then A1e d m n ag (Ai σ x) (Ai σ i) σ else none
 | .box d x, σ => A06 d (Ai σ x) σ
 | .alc d z, σ => A19 d z σ
 | .mk d m z x, σ => mkS d m z (Ai σ x) σ
 | .mkc d m _ x, σ => Av0 d m (Ai σ x) σ
 | .slt d m x hi, σ => Azm d m (Ai σ x) (Ai σ hi) σ
 | .bsl d m ps, σ => Aql d m (ps.map (Ai σ)) σ
 | .mkr d m z x, σ => A18 d m z (Ai σ x) σ
 | .bslr d m ps, σ => Avp d m (ps.map (Ai σ)) σ
 | .bld d z ps, σ => A1o d z ps σ
 | .app d m x y, σ => Aw8 d m x y σ
 | .nck d x, σ => A1y d (Ai σ x) σ
 | .mkf d f cs, σ => some (As d (A1m f (cs.map (Ai σ))) σ)
 | .mkm d, σ => A4i d σ
 | .mlk d x k z ok, σ => A1r d (Ai σ x) (Ai σ k) z ok σ
 | .mup m k v, σ => A2h (Ai σ m) (Ai σ k) (Ai σ v) σ
 | .bstr d x, σ => Ava d (Ai σ x) σ
 | _, _ => none
def Aqk (P : Program) (t : TypeId) : Option TypeInfo := match P.underlying t with
 | some (.map k e) => (match P.underlying k with
   | some .string => P.info? e
   | _ => none)
 | _ => none
theorem Abs {P : Program} {t : TypeId} {fi : TypeInfo} (h : Aqk P t = some fi) : ∃ k e, P.underlying t = some (.map k e) ∧ P.underlying k = some .string ∧ P.info? e = some fi := by
 unfold Aqk at h
 split at h
 case h_2 => cases h
 rename_i k e h1
 split at h
 case h_2 => cases h
 rename_i h2
 exact ⟨k, e, h1, h2, h⟩
def Jt (P : Program) (t : TypeId) : Option TypeInfo := match P.underlying t with
 | some (.slice e) => P.info? e
 | _ => none
def Auv (P : Program) (t : TypeId) : Option (Nat × TypeInfo) := match P.underlying t with
 | some (.array n e) => (P.info? e).map (n, ·)
 | _ => none
def Aov (P : Program) (t : TypeId) (i : Nat) : Option (Nat × TypeInfo) := match P.underlying t with
 | some (.struct fs) => match fs[i]? with
   | some f => (P.info? f.type).map (f.offset, ·)
   | none => none
 | _ => none
def Arv (P : Program) (t : TypeId) (i : Nat) : Option (Nat × TypeId) := match P.underlying t with
 | some (.struct fs) => (fs[i]?).map fun f => (f.offset, f.type)
 | _ => none
def Pj (i : TypeInfo) (z : V) : Bool := match i.zero with
 | some v => cRd z v
 | none => false
def Au1 (P : Program) (m : Nat) (lo hi : Option X) (lo' hi' : Option Operand) (t : TypeId) : Bool := match lo, hi, lo', hi' with
 | none, some (.c (.bool true)), none, none => (match P.underlying t with
   | some (.array n e) => Nat.beq m (1000000 + n) && (match P.info? e with | some fi => fi.size == 1 | none => false)
   | _ => false)
 | _, _, _, _ => false
def Bb (P : Program) (N : Nat) (o : Oper) : AOp → Bool
 | .mov d x => o.dst == some d && decide (d < N) && (match o.op with | .move x' => Ap N x x' | .assign x' => Ap N x x' | _ => false)
 | .asg d x => o.dst == some d && decide (d < N) && (match o.op with | .move x' => Ap N x x' | .assign x' => Ap N x x' | _ => false)
 | .asgf d x => o.dst == some d && decide (d < N) && (match o.op with | .move x' => Ap N x x' | .assign x' => Ap N x x' | _ => false)
 | .slc d m x lo hi => o.dst == some d && decide (d < N) && (match o.op with
   | .slice t x' lo' hi' none => Ap N x x' && ((Uj N lo lo' && Uj N hi hi' && decide (m < 1000000) && (match Jt P t with | some fi => fi.size == m | none => false)) || Au1 P m lo hi lo' hi' t)
   | _ => false)
 | .pick d c x y => o.dst == some d && decide (d < N) && (match o.op with | .pick c' x' y' => Ap N c c' && Ap N x x' && Ap N y y' | _ => false)
 | .bin d op x y => o.dst == some d && decide (d < N) && (match o.op with | .binOp op' _ x' y' _ => op' == op && Ap N x x' && Ap N y y' | _ => false)
 | .binb d op x y => o.dst == some d && decide (d < N) && (match o.op with | .binOp op' t x' y' _ => op' == op && Ap N x x' && Ap N y y' && (match P.underlying t with | some .bool => true | _ => false) | _ => false)
 | .un d op x => o.dst == some d && decide (d < N) && (match o.op with | .unOp op' _ x' => op' == op && Ap N x x' | _ => false)
 | .cnv d k x => o.dst == some d && decide (d < N) && (match o.op with
   | .convert s t x' => Ap N x x' && (match P.underlying s with | some (.int _) => true | _ => false) && (match P.underlying t with | some (.int k') => k' == k | _ => false)
   | _ => false)
 | .len d x => o.dst == some d && decide (d < N) && (match o.op with
   | .call { callee := .builtin .len, args, argTypes } => (match args.toList, argTypes.toList with | [x'], [t] => Ap N x x' && (match P.underlying t with | some (.slice _) => true | _ => false) | _, _ => false)
   | _ => false)
 | .slen d x => o.dst == some d && decide (d < N) && (match o.op with
   | .call { callee := .builtin .len, args, argTypes } => (match args.toList, argTypes.toList with | [x'], [t] => Ap N x x' && (match P.underlying t with | some .string => true | _ => false) | _, _ => false)
   | _ => false)
 | .sidx d x i => o.dst == some d && decide (d < N) && (match o.op with
   | .index t x' i' => Ap N x x' && Ap N i i' && (match P.underlying t with | some .string => true | _ => false)
   | _ => false)
 | .max d x y => o.dst == some d && decide (d < N) && (match o.op with
   | .call { callee := .builtin .max, args, .. } => (match args.toList with | [x', y'] => Ap N x x' && Ap N y y' | _ => false)
   | _ => false)
 | .ext d x i => o.dst == some d && decide (d < N) && (match o.op with | .extract x' i' => Ap N x x' && i' == i | _ => false)
 | .iad d m x i => o.dst == some d && decide (d < N) && (match o.op with
   | .indexAddr t x' i' => Ap N x x' && Ap N i i' && (match Jt P t with | some fi => fi.size == m | none => false)
   | _ => false)
 | .aad d m n x i => o.dst == some d && decide (d < N) && (match o.op with
   | .indexAddr t x' i' => Ap N x x' && Ap N i i' && (match Auv P t with | some (n', fi) => n' == n && fi.size == m | none => false)
   | _ => false)
 | .fadr d off x => o.dst == some d && decide (d < N) && (match o.op with
   | .fieldAddr t x' i => Ap N x x' && (match Aov P t i with | some (off', fi) => off' == off && fi.size != 0 | none => false)
   | _ => false)
 | .ld d n ag x => o.dst == some d && decide (d < N) && (match o.op with | .load t x' => Ap N x x' && Pm P t n ag | _ => false)
 | .st n x v => o.dst == none && (match o.op with
   | .store t x' v' => Ap N x x' && Ap N v v' && (match P.info? t with | some fi => fi.size == n | none => false)
   | _ => false)
 | .fld d off n ag x => o.dst == some d && decide (d < N) && (match o.op with
   | .field t x' i => Ap N x x' && (match Arv P t i with | some (off', ft) => off' == off && Pm P ft n ag | none => false)
   | _ => false)
 | .idx d m n ag x i => o.dst == some d && decide (d < N) && (match o.op with
   | .index t x' i' => Ap N x x' && Ap N i i' && (match P.underlying t with | some (.array n' e) => n' == n && Pm P e m ag | _ => false)
   | _ => false)
 | .box d x => o.dst == some d && decide (d < N) && (match o.op with | .box _ x' => Ap N x x' | _ => false)
 | .alc d z => o.dst == some d && decide (d < N) && (match o.op with | .alloc t => (match P.info? t with | some fi => Pj fi z | none => false) | _ => false)
 | .mk d m z x => o.dst == some d && decide (d < N) && (match o.op with
   | .makeSlice t (.tmp x1) (.tmp x2) => x1 == x2 && Ap N x (.tmp x1) && (match Jt P t with
     | some fi => fi.size == m && Pj fi z && C9 z.cells && decide (z.cells.length = m) && decide (fi.bytes ≤ 1024)
     | none => false)
   | .makeSlice t (.const (.int k1 n1)) (.const (.int k2 n2)) => k1 == k2 && n1 == n2 && Ap N x (.const (.int k1 n1)) && (match Jt P t with
     | some fi => fi.size == m && Pj fi z && C9 z.cells && decide (z.cells.length = m) && decide (fi.bytes ≤ 1024)
     | none => false)
   | _ => false)
 | .mkc d m _ x => o.dst == some d && decide (d < N) && (match o.op with
   | .makeSlice t (.const (.int _ n)) x2 => n == 0 && Ap N x x2 && (match Jt P t with
     | some fi => fi.size == m && fi.zero.isSome && decide (fi.bytes ≤ 1024)
     | none => false)
   | _ => false)
 | .slt d m x hi => o.dst == some d && decide (d < N) && (match o.op with
   | .slice t x' none (some hi') none => Ap N x x' && Ap N hi hi' && (match Jt P t with
     | some fi => fi.size == m
     | none => false)
   | _ => false)
 | .bsl d m ps => o.dst == some d && decide (d < N) && (match o.op with
   | .buildSlice t n parts => parts.toList.map (·.1) == List.range n && Nl N ps (parts.toList.map (·.2)) && (match Jt P t with
     | some fi => fi.size == m && fi.zero.isSome && decide (0 < m) && decide (n * m ≤ 16777216)
     | none => false)
   | _ => false)
 | .mkr d m z x => o.dst == some d && decide (d < N) && decide (d < 100000) && (match o.op with
   | .makeSlice t (.tmp x1) (.tmp x2) => x1 == x2 && Ap N x (.tmp x1) && (match Jt P t with
     | some fi => fi.size == m && Pj fi z && C9 z.cells && decide (z.cells.length = m) && decide (fi.bytes ≤ 1024)
     | none => false)
   | .makeSlice t (.const (.int k1 n1)) (.const (.int k2 n2)) => k1 == k2 && n1 == n2 && Ap N x (.const (.int k1 n1)) && (match Jt P t with
     | some fi => fi.size == m && Pj fi z && C9 z.cells && decide (z.cells.length = m) && decide (fi.bytes ≤ 1024)
     | none => false)
   | _ => false)
 | .bslr d m ps => o.dst == some d && decide (d < N) && decide (d < 100000) && (match o.op with
   | .buildSlice t n parts => parts.toList.map (·.1) == List.range n && Nl N ps (parts.toList.map (·.2)) && (match Jt P t with
     | some fi => fi.size == m && fi.zero.isSome && decide (0 < m) && decide (n * m ≤ 16777216)
     | none => false)
   | _ => false)
 | .bld d z ps => o.dst == some d && decide (d < N) && (match o.op with
   | .build t parts => (match Akd P t, P.info? t with
     | some place, some fi => Ab3 N place ps parts.toList && (match fi.zero with | some zv => Aqy z zv.cells.toList | none => false)
     | _, _ => false)
   | _ => false)
 | .app d m x y => o.dst == some d && decide (d < N) && (match o.op with
   | .call { callee := .builtin .append, args, argTypes } => (match args.toList, argTypes.toList with
     | [x', y'], [t, t'] => t == t' && Ap N x x' && Ap N y y' && (match Jt P t with
       | some fi => fi.size == m && (match fi.zero with | some z => z.cells.size == m | none => false) && decide (fi.bytes ≤ 1024)
       | none => false)
     | _, _ => false)
   | _ => false)
 | .nck d x => o.dst == some d && decide (d < N) && (match o.op with | .nilCheck x' => Ap N x x' | _ => false)
 | .mkf d f cs => o.dst == some d && decide (d < N) && (match o.op with | .makeFunc (.func f') first cs' => f' == f && first.isEmpty && Nl N cs cs'.toList | _ => false)
 | .mkm d => o.dst == some d && decide (d < N) && (match o.op with | .makeMap _ none => true | _ => false)
 | .mlk d x k z ok => o.dst == some d && decide (d < N) && (match o.op with
   | .lookup t x' k' ok' => ok' == ok && Ap N x x' && Ap N k k' && (match Aqk P t with | some fi => Pj fi z.v | none => false)
   | _ => false)
 | .mup m k v => o.dst == none && (match o.op with
   | .mapUpdate t m' k' v' => Ap N m m' && Ap N k k' && Ap N v v' && (Aqk P t).isSome
   | .insert t m' k' v' => Ap N m m' && Ap N k k' && Ap N v v' && (Aqk P t).isSome
   | _ => false)
 | .bstr d x => o.dst == some d && decide (d < N) && (match o.op with
   | .convert s t x' => Ap N x x' && (match P.underlying s with | some (.slice e) => (match P.underlying e with | some (.int .u8) => true | _ => false) | _ => false) && (match P.underlying t with | some .string => true | _ => false)
   | _ => false)
 | _ => false
theorem Di {P t fi} (h : Jt P t = some fi) : ∃ e, P.underlying t = some (.slice e) ∧ P.info? e = some fi := by
 unfold Jt at h
 split at h
 ·exact ⟨_, by assumption, h⟩
 cases h
theorem N5 {α : Type} {a : Array α} {x : α} (h : a.toList = [x]) : a = #[x] := by
 apply Array.toList_inj.1; simpa using h
theorem T6 {α : Type} {a : Array α} {x y : α} (h : a.toList = [x, y]) : a = #[x, y] := by
 apply Array.toList_inj.1; simpa using h
theorem Nc {P : Program} {o : Oper} {ao : AOp} {σ σ' a w O gv N vals fp} (hf : Bb P N o ao = true) (h : Ok σ a w O gv N vals fp) (hs : B1 ao σ = some σ') :
  Bj P o σ' a w O gv N fp := by
 cases ao with
 | mov d x =>
   simp only [Bb, Bool.and_eq_true, beq_iff_eq, decide_eq_true_eq] at hf
   obtain ⟨⟨hd, hN⟩, hf⟩ := hf
   simp only [B1, Option.some.injEq] at hs; subst hs
   split at hf
   ·exact A0p h (.inl (by assumption)) hd hN hf
   ·exact A0p h (.inr (by assumption)) hd hN hf
   ·cases hf
 | asg d x =>
   simp only [Bb, Bool.and_eq_true, beq_iff_eq, decide_eq_true_eq] at hf
   obtain ⟨⟨hd, hN⟩, hf⟩ := hf
   split at hf
   ·exact Ay8 h (.inl (by assumption)) hd hN hf hs
   ·exact Ay8 h (.inr (by assumption)) hd hN hf hs
   ·cases hf
 | asgf d x =>
   simp only [Bb, Bool.and_eq_true, beq_iff_eq, decide_eq_true_eq] at hf
   obtain ⟨⟨hd, hN⟩, hf⟩ := hf
   split at hf
   ·exact Avl h (.inl (by assumption)) hd hN hf hs
   ·exact Avl h (.inr (by assumption)) hd hN hf hs
   ·cases hf
 | pick d c x y =>
   simp only [Bb, Bool.and_eq_true, beq_iff_eq, decide_eq_true_eq] at hf
   obtain ⟨⟨hd, hN⟩, hf⟩ := hf
   split at hf
   case h_2 => cases hf
   simp only [Bool.and_eq_true] at hf
   exact A1s h (by assumption) hd hN hf.1.1 hf.1.2 hf.2 hs
 | bin d op x y =>
   simp only [Bb, Bool.and_eq_true, beq_iff_eq, decide_eq_true_eq] at hf
   obtain ⟨⟨hd, hN⟩, hf⟩ := hf
   split at hf
   case h_2 => cases hf
   rename_i op' t x' y' yt ho
   simp only [Bool.and_eq_true, beq_iff_eq] at hf
   obtain ⟨⟨rfl, hx⟩, hy⟩ := hf
   simp only [B1, A25] at hs
   split at hs
   case h_2 => cases hs
   rename_i u hu
   split at hs
   ·cases hs
   ·rename_i hb
    exact Ay6 h ho hd hN hx hy (by intro u' b h1 h2; rw [hu] at h1; cases h1; subst h2; exact absurd rfl hb) hs
 | binb d op x y =>
   simp only [Bb, Bool.and_eq_true, beq_iff_eq, decide_eq_true_eq] at hf
   obtain ⟨⟨hd, hN⟩, hf⟩ := hf
   split at hf
   case h_2 => cases hf
   rename_i op' t x' y' yt ho
   simp only [Bool.and_eq_true, beq_iff_eq] at hf
   obtain ⟨⟨⟨rfl, hx⟩, hy⟩, ht⟩ := hf
   split at ht
   case h_2 => cases ht
   exact Ay6 h ho hd hN hx hy (by intros; assumption) hs
 | un d op x =>
   simp only [Bb, Bool.and_eq_true, beq_iff_eq, decide_eq_true_eq] at hf
   obtain ⟨⟨hd, hN⟩, hf⟩ := hf
   split at hf
   case h_2 => cases hf
   simp only [Bool.and_eq_true, beq_iff_eq] at hf
   obtain ⟨rfl, hx⟩ := hf
   exact A4f h (by assumption) hd hN hx hs
 | cnv d k x =>
   simp only [Bb, Bool.and_eq_true, beq_iff_eq, decide_eq_true_eq] at hf
   obtain ⟨⟨hd, hN⟩, hf⟩ := hf
   split at hf
   case h_2 => cases hf
   rename_i s t x' ho
   simp only [Bool.and_eq_true] at hf
   obtain ⟨⟨hx, h1⟩, h2⟩ := hf
   split at h1
   case h_2 => cases h1
   rename_i k1 e1
   split at h2
   case h_2 => cases h2
   rename_i k2 e2
   simp only [beq_iff_eq] at h2
   subst h2
   exact A3i h ho hd hN e1 e2 hx hs
 | len d x =>
   simp only [Bb, Bool.and_eq_true, beq_iff_eq, decide_eq_true_eq] at hf
   obtain ⟨⟨hd, hN⟩, hf⟩ := hf
   split at hf
   case h_2 => cases hf
   rename_i args ats ho
   split at hf
   case h_2 => cases hf
   rename_i x' t h1 h2
   simp only [Bool.and_eq_true] at hf
   obtain ⟨hx, ht⟩ := hf
   split at ht
   case h_2 => cases ht
   rw [N5 h1, N5 h2] at ho
   exact A2r h ho hd hN hx (by assumption) hs
 | slen d x =>
   simp only [Bb, Bool.and_eq_true, beq_iff_eq, decide_eq_true_eq] at hf
   obtain ⟨⟨hd, hN⟩, hf⟩ := hf
   split at hf
   case h_2 => cases hf
   rename_i args ats ho
   split at hf
   case h_2 => cases hf
   rename_i x' t h1 h2
   simp only [Bool.and_eq_true] at hf
   obtain ⟨hx, ht⟩ := hf
   split at ht
   case h_2 => cases ht
   rw [N5 h1, N5 h2] at ho
   exact A1v h ho hd hN hx (by assumption) hs
 | sidx d x i =>
   simp only [Bb, Bool.and_eq_true, beq_iff_eq, decide_eq_true_eq] at hf
   obtain ⟨⟨hd, hN⟩, hf⟩ := hf
   split at hf
   case h_2 => cases hf
   simp only [Bool.and_eq_true] at hf
   obtain ⟨⟨hx, hi⟩, ht⟩ := hf
   split at ht
   case h_2 => cases ht
   exact A04 h (by assumption) hd hN hx hi (by assumption) hs
 | max d x y =>
   simp only [Bb, Bool.and_eq_true, beq_iff_eq, decide_eq_true_eq] at hf
   obtain ⟨⟨hd, hN⟩, hf⟩ := hf
   split at hf
   case h_2 => cases hf
   rename_i args ats ho
   split at hf
   case h_2 => cases hf
   rename_i x' y' h1
   simp only [Bool.and_eq_true] at hf
   rw [T6 h1] at ho
   exact A2x h ho hd hN hf.1 hf.2 hs
 | ext d x i =>
   simp only [Bb, Bool.and_eq_true, beq_iff_eq, decide_eq_true_eq] at hf
   obtain ⟨⟨hd, hN⟩, hf⟩ := hf
   split at hf
   case h_2 => cases hf
   simp only [Bool.and_eq_true, beq_iff_eq] at hf
   obtain ⟨hx, rfl⟩ := hf
   exact A3m h (by assumption) hd hN hx hs
 | iad d m x i =>
   simp only [Bb, Bool.and_eq_true, beq_iff_eq, decide_eq_true_eq] at hf
   obtain ⟨⟨hd, hN⟩, hf⟩ := hf
   split at hf
   case h_2 => cases hf
   simp only [Bool.and_eq_true] at hf
   obtain ⟨⟨hx, hi⟩, ht⟩ := hf
   split at ht
   case h_2 => cases ht
   rename_i fi hts
   obtain ⟨e, h1, h2⟩ := Di hts
   exact A3w h (by assumption) hd hN hx hi h1 h2 (by simpa using ht) hs
 | aad d m n x i =>
   simp only [Bb, Bool.and_eq_true, beq_iff_eq, decide_eq_true_eq] at hf
   obtain ⟨⟨hd, hN⟩, hf⟩ := hf
   split at hf
   case h_2 => cases hf
   simp only [Bool.and_eq_true] at hf
   obtain ⟨⟨hx, hi⟩, ht⟩ := hf
   split at ht
   case h_2 => cases ht
   rename_i n' fi hts
   simp only [Bool.and_eq_true, beq_iff_eq] at ht
   obtain ⟨rfl, rfl⟩ := ht
   unfold Auv at hts
   split at hts
   case h_2 => cases hts
   rename_i n2 e hu
   obtain ⟨fi', h1, h2⟩ := Option.map_eq_some_iff.1 hts
   cases h2
   exact A3s h (by assumption) hd hN hx hi hu h1 rfl hs
 | fadr d off x =>
   simp only [Bb, Bool.and_eq_true, beq_iff_eq, decide_eq_true_eq] at hf
   obtain ⟨⟨hd, hN⟩, hf⟩ := hf
   split at hf
   case h_2 => cases hf
   simp only [Bool.and_eq_true] at hf
   obtain ⟨hx, ht⟩ := hf
   split at ht
   case h_2 => cases ht
   rename_i off' fi hts
   simp only [Bool.and_eq_true, beq_iff_eq, bne_iff_ne] at ht
   obtain ⟨rfl, hz⟩ := ht
   unfold Aov at hts
   split at hts
   case h_2 => cases hts
   rename_i fs hu
   split at hts
   case h_2 => cases hts
   rename_i f hfi
   obtain ⟨fi', h1, h2⟩ := Option.map_eq_some_iff.1 hts
   cases h2
   exact A07 h (by assumption) hd hN hx hu hfi rfl h1 hz hs
 | ld d n ag x =>
   simp only [Bb, Bool.and_eq_true, beq_iff_eq, decide_eq_true_eq] at hf
   obtain ⟨⟨hd, hN⟩, hf⟩ := hf
   split at hf
   case h_2 => cases hf
   simp only [Bool.and_eq_true] at hf
   exact A38 h (by assumption) hd hN hf.1 hf.2 hs
 | st n x v =>
   simp only [Bb, Bool.and_eq_true, beq_iff_eq] at hf
   obtain ⟨hd, hf⟩ := hf
   split at hf
   case h_2 => cases hf
   simp only [Bool.and_eq_true] at hf
   obtain ⟨⟨hx, hv⟩, ht⟩ := hf
   split at ht
   case h_2 => cases ht
   exact Ay5 h (by assumption) hd hx hv (by assumption) (by simpa using ht) hs
 | fld d off n ag x =>
   simp only [Bb, Bool.and_eq_true, beq_iff_eq, decide_eq_true_eq] at hf
   obtain ⟨⟨hd, hN⟩, hf⟩ := hf
   split at hf
   case h_2 => cases hf
   simp only [Bool.and_eq_true] at hf
   obtain ⟨hx, ht⟩ := hf
   split at ht
   case h_2 => cases ht
   rename_i off' ft hts
   simp only [Bool.and_eq_true, beq_iff_eq] at ht
   obtain ⟨rfl, hty⟩ := ht
   unfold Arv at hts
   split at hts
   case h_2 => cases hts
   rename_i fs hu
   obtain ⟨f, h1, h2⟩ := Option.map_eq_some_iff.1 hts
   cases h2
   simp only [B1] at hs
   split at hs
   case isFalse => cases hs
   exact A3k h (by assumption) hd hN hx hu h1 rfl hty (by assumption) hs
 | idx d m n ag x i =>
   simp only [Bb, Bool.and_eq_true, beq_iff_eq, decide_eq_true_eq] at hf
   obtain ⟨⟨hd, hN⟩, hf⟩ := hf
   split at hf
   case h_2 => cases hf
   simp only [Bool.and_eq_true] at hf
   obtain ⟨⟨hx, hi⟩, ht⟩ := hf
   split at ht
   case h_2 => cases ht
   simp only [Bool.and_eq_true, beq_iff_eq] at ht
   obtain ⟨rfl, hty⟩ := ht
   simp only [B1] at hs
   split at hs
   case isFalse => cases hs
   exact A3u h (by assumption) hd hN hx hi (by assumption) hty (by assumption) hs
 | box d x =>
   simp only [Bb, Bool.and_eq_true, beq_iff_eq, decide_eq_true_eq] at hf
   obtain ⟨⟨hd, hN⟩, hf⟩ := hf
   split at hf
   case h_2 => cases hf
   exact A3h h (by assumption) hd hN hf hs
 | alc d z =>
   simp only [Bb, Bool.and_eq_true, beq_iff_eq, decide_eq_true_eq] at hf
   obtain ⟨⟨hd, hN⟩, hf⟩ := hf
   split at hf
   case h_2 => cases hf
   split at hf
   case h_2 => cases hf
   unfold Pj at hf
   split at hf
   case h_2 => cases hf
   exact A2y h (by assumption) hd hN (by assumption) (by assumption) hf hs
 | mk d m z x =>
   simp only [Bb, Bool.and_eq_true, beq_iff_eq, decide_eq_true_eq] at hf
   obtain ⟨⟨hd, hN⟩, hf⟩ := hf
   split at hf
   case h_3 => cases hf
   ·rename_i t x1 x2 ho
    simp only [Bool.and_eq_true, beq_iff_eq] at hf
    obtain ⟨⟨rfl, hx⟩, ht⟩ := hf
    split at ht
    case h_2 => cases ht
    rename_i fi hts
    simp only [Bool.and_eq_true, beq_iff_eq, decide_eq_true_eq] at ht
    obtain ⟨⟨⟨⟨h1, h2⟩, h3⟩, h4⟩, h5⟩ := ht
    obtain ⟨e, g1, g2⟩ := Di hts
    unfold Pj at h2
    split at h2
    case h_2 => cases h2
    exact Aur h ho hd hN hx g1 g2 h1 (by assumption) h2 h3 h4 h5 hs
   ·rename_i t k1 n1 k2 n2 ho
    simp only [Bool.and_eq_true, beq_iff_eq] at hf
    obtain ⟨⟨⟨rfl, rfl⟩, hx⟩, ht⟩ := hf
    split at ht
    case h_2 => cases ht
    rename_i fi hts
    simp only [Bool.and_eq_true, beq_iff_eq, decide_eq_true_eq] at ht
    obtain ⟨⟨⟨⟨h1, h2⟩, h3⟩, h4⟩, h5⟩ := ht
    obtain ⟨e, g1, g2⟩ := Di hts
    unfold Pj at h2
    split at h2
    case h_2 => cases h2
    exact Aur h ho hd hN hx g1 g2 h1 (by assumption) h2 h3 h4 h5 hs
 | mkc d m z x =>
   simp only [Bb, Bool.and_eq_true, beq_iff_eq, decide_eq_true_eq] at hf
   obtain ⟨⟨hd, hN⟩, hf⟩ := hf
   split at hf
   case h_2 => cases hf
   rename_i t k0 n0 x2 ho
   simp only [Bool.and_eq_true, beq_iff_eq] at hf
   obtain ⟨⟨rfl, hx⟩, ht⟩ := hf
   split at ht
   case h_2 => cases ht
   rename_i fi hts
   simp only [Bool.and_eq_true, beq_iff_eq, decide_eq_true_eq] at ht
   obtain ⟨⟨h1, h2⟩, h5⟩ := ht
   obtain ⟨e, g1, g2⟩ := Di hts
   obtain ⟨zv, hz⟩ := Option.isSome_iff_exists.1 h2
   exact A3b h ho hd hN hx g1 g2 h1 hz h5 hs
 | slt d m x hi =>
   simp only [Bb, Bool.and_eq_true, beq_iff_eq, decide_eq_true_eq] at hf
   obtain ⟨⟨hd, hN⟩, hf⟩ := hf
   split at hf
   case h_2 => cases hf
   rename_i t x' hi' ho
   simp only [Bool.and_eq_true] at hf
   obtain ⟨⟨hx, hhi⟩, ht⟩ := hf
   split at ht
   case h_2 => cases ht
   rename_i fi hts
   obtain ⟨e, g1, g2⟩ := Di hts
   exact A3t h ho hd hN hx hhi g1 g2 (beq_iff_eq.1 ht) hs
 | bsl d m ps =>
   simp only [Bb, Bool.and_eq_true, beq_iff_eq, decide_eq_true_eq] at hf
   obtain ⟨⟨hd, hN⟩, hf⟩ := hf
   split at hf
   case h_2 => cases hf
   rename_i t n parts ho
   simp only [Bool.and_eq_true, beq_iff_eq] at hf
   obtain ⟨⟨h1, h2⟩, ht⟩ := hf
   split at ht
   case h_2 => cases ht
   rename_i fi hts
   simp only [Bool.and_eq_true, beq_iff_eq, decide_eq_true_eq] at ht
   obtain ⟨⟨⟨g1, g2⟩, g3⟩, g4⟩ := ht
   obtain ⟨e, k1, k2⟩ := Di hts
   obtain ⟨z, hz⟩ := Option.isSome_iff_exists.1 g2
   exact A0k h ho hd hN h1 h2 k1 k2 g1 hz g3 g4 hs
 | mkr d m z x =>
   simp only [Bb, Bool.and_eq_true, beq_iff_eq, decide_eq_true_eq] at hf
   obtain ⟨⟨⟨hd, hN⟩, hsm⟩, hf⟩ := hf
   obtain ⟨U, σ1, hs1, rfl⟩ := Axm hs
   split at hf
   case h_3 => cases hf
   ·rename_i t x1 x2 ho
    simp only [Bool.and_eq_true, beq_iff_eq] at hf
    obtain ⟨⟨rfl, hx⟩, ht⟩ := hf
    split at ht
    case h_2 => cases ht
    rename_i fi hts
    simp only [Bool.and_eq_true, beq_iff_eq, decide_eq_true_eq] at ht
    obtain ⟨⟨⟨⟨h1, h2⟩, h3⟩, h4⟩, h5⟩ := ht
    obtain ⟨e, g1, g2⟩ := Di hts
    unfold Pj at h2
    split at h2
    case h_2 => cases h2
    exact (Aur h ho hd hN hx g1 g2 h1 (by assumption) h2 h3 h4 h5 hs1).frzd hsm
   ·rename_i t k1 n1 k2 n2 ho
    simp only [Bool.and_eq_true, beq_iff_eq] at hf
    obtain ⟨⟨⟨rfl, rfl⟩, hx⟩, ht⟩ := hf
    split at ht
    case h_2 => cases ht
    rename_i fi hts
    simp only [Bool.and_eq_true, beq_iff_eq, decide_eq_true_eq] at ht
    obtain ⟨⟨⟨⟨h1, h2⟩, h3⟩, h4⟩, h5⟩ := ht
    obtain ⟨e, g1, g2⟩ := Di hts
    unfold Pj at h2
    split at h2
    case h_2 => cases h2
    exact (Aur h ho hd hN hx g1 g2 h1 (by assumption) h2 h3 h4 h5 hs1).frzd hsm
 | bslr d m ps =>
   simp only [Bb, Bool.and_eq_true, beq_iff_eq, decide_eq_true_eq] at hf
   obtain ⟨⟨⟨hd, hN⟩, hsm⟩, hf⟩ := hf
   obtain ⟨U, σ1, hs1, rfl⟩ := Ato hs
   split at hf
   case h_2 => cases hf
   rename_i t n parts ho
   simp only [Bool.and_eq_true, beq_iff_eq] at hf
   obtain ⟨⟨h1, h2⟩, ht⟩ := hf
   split at ht
   case h_2 => cases ht
   rename_i fi hts
   simp only [Bool.and_eq_true, beq_iff_eq, decide_eq_true_eq] at ht
   obtain ⟨⟨⟨g1, g2⟩, g3⟩, g4⟩ := ht
   obtain ⟨e, k1, k2⟩ := Di hts
   obtain ⟨z, hz⟩ := Option.isSome_iff_exists.1 g2
   exact (A0k h ho hd hN h1 h2 k1 k2 g1 hz g3 g4 hs1).frzd hsm
 | bld d z ps =>
   simp only [Bb, Bool.and_eq_true, beq_iff_eq, decide_eq_true_eq] at hf
   obtain ⟨⟨hd, hN⟩, hf⟩ := hf
   split at hf
   case h_2 => cases hf
   rename_i t parts ho
   split at hf
   case h_2 => cases hf
   rename_i place fi hp hfi
   simp only [Bool.and_eq_true] at hf
   obtain ⟨h1, h2⟩ := hf
   split at h2
   case h_2 => cases h2
   exact A3r h ho hd hN hp h1 hfi (by assumption) h2 hs
 | app d m x y =>
   simp only [Bb, Bool.and_eq_true, beq_iff_eq, decide_eq_true_eq] at hf
   obtain ⟨⟨hd, hN⟩, hf⟩ := hf
   split at hf
   case h_2 => cases hf
   rename_i args ats ho
   split at hf
   case h_2 => cases hf
   rename_i x' y' t t' h1 h2
   simp only [Bool.and_eq_true, beq_iff_eq] at hf
   obtain ⟨⟨⟨rfl, hx⟩, hy⟩, ht⟩ := hf
   split at ht
   case h_2 => cases ht
   rename_i fi hts
   simp only [Bool.and_eq_true, beq_iff_eq, decide_eq_true_eq] at ht
   obtain ⟨⟨g1, g2⟩, g3⟩ := ht
   split at g2
   case h_2 => cases g2
   obtain ⟨e, k1, k2⟩ := Di hts
   rw [T6 h1, T6 h2] at ho
   exact A2z h ho hd hN hx hy k1 k2 g1 (by assumption) (by simpa using g2) g3 hs
 | nck d x =>
   simp only [Bb, Bool.and_eq_true, beq_iff_eq, decide_eq_true_eq] at hf
   obtain ⟨⟨hd, hN⟩, hf⟩ := hf
   split at hf
   case h_2 => cases hf
   exact A2v h (by assumption) hd hN hf hs
 | mkf d f cs =>
   simp only [Bb, Bool.and_eq_true, beq_iff_eq, decide_eq_true_eq] at hf
   obtain ⟨⟨hd, hN⟩, hf⟩ := hf
   split at hf
   case h_2 => cases hf
   rename_i f' first cs' ho
   simp only [Bool.and_eq_true, beq_iff_eq] at hf
   obtain ⟨⟨rfl, he⟩, hx⟩ := hf
   have : first = #[] := by simpa using he
   subst this
   simp only [B1, Option.some.injEq] at hs; subst hs
   exact A3q h ho hd hN hx
 | slc d m x lo hi =>
   simp only [Bb, Bool.and_eq_true, beq_iff_eq, decide_eq_true_eq] at hf
   obtain ⟨⟨hd, hN⟩, hf⟩ := hf
   split at hf
   case h_2 => cases hf
   rename_i ho
   simp only [Bool.and_eq_true, Bool.or_eq_true, decide_eq_true_eq] at hf
   obtain ⟨hx, hf⟩ := hf
   rcases hf with ⟨⟨⟨hlo, hhi⟩, hm6⟩, hty⟩ | hf
   ·split at hty
    case h_2 => cases hty
    rename_i fi hts
    obtain ⟨e, k1, k2⟩ := Di hts
    exact A31 h (by assumption) hd hN hx hlo hhi k1 k2 (by simpa using hty) hm6 hs
   ·unfold Au1 at hf
    split at hf
    case h_2 => cases hf
    split at hf
    case h_2 => cases hf
    rename_i n e hu
    simp only [Bool.and_eq_true] at hf
    obtain ⟨hmn, hsz⟩ := hf
    split at hsz
    case h_2 => cases hsz
    rename_i fi hi2
    exact A26 h ho hd hN hx hu hi2 (by simpa using hsz) (Nat.eq_of_beq_eq_true hmn) hs
 | call d f as => simp [Bb] at hf
 | cally d x as ms => simp [Bb] at hf
 | mkm d =>
   simp only [Bb, Bool.and_eq_true, beq_iff_eq, decide_eq_true_eq] at hf
   obtain ⟨⟨hd, hN⟩, hf⟩ := hf
   split at hf
   case h_2 => cases hf
   simp only [B1, A4i, Option.some.injEq] at hs; subst hs
   exact A3n h (by assumption) hd hN
 | mlk d x k z ok =>
   simp only [Bb, Bool.and_eq_true, beq_iff_eq, decide_eq_true_eq] at hf
   obtain ⟨⟨hd, hN⟩, hf⟩ := hf
   split at hf
   case h_2 => cases hf
   rename_i t x' k' ok' ho
   simp only [Bool.and_eq_true, beq_iff_eq] at hf
   obtain ⟨⟨⟨rfl, hx⟩, hk⟩, hz⟩ := hf
   split at hz
   case h_2 => cases hz
   rename_i fi hfi
   obtain ⟨kt, et, k1, k2, k3⟩ := Abs hfi
   unfold Pj at hz
   split at hz
   case h_2 => cases hz
   rename_i zv hzv
   exact A3l h ho hd hN k1 k2 k3 hzv hz hx hk hs
 | mup m k v =>
   simp only [Bb, Bool.and_eq_true, beq_iff_eq] at hf
   obtain ⟨hd, hf⟩ := hf
   split at hf
   case h_3 => cases hf
   ·rename_i t m' k' v' ho
    simp only [Bool.and_eq_true] at hf
    obtain ⟨⟨⟨hm, hk⟩, hv⟩, ht⟩ := hf
    obtain ⟨fi, hfi⟩ := Option.isSome_iff_exists.1 ht
    obtain ⟨kt, et, k1, k2, k3⟩ := Abs hfi
    exact Az9 h (.inl ho) hd k1 k2 hm hk hv hs
   ·rename_i t m' k' v' ho
    simp only [Bool.and_eq_true] at hf
    obtain ⟨⟨⟨hm, hk⟩, hv⟩, ht⟩ := hf
    obtain ⟨fi, hfi⟩ := Option.isSome_iff_exists.1 ht
    obtain ⟨kt, et, k1, k2, k3⟩ := Abs hfi
    exact Az9 h (.inr ho) hd k1 k2 hm hk hv hs
 | bstr d x =>
   simp only [Bb, Bool.and_eq_true, beq_iff_eq, decide_eq_true_eq] at hf
   obtain ⟨⟨hd, hN⟩, hf⟩ := hf
   split at hf
   case h_2 => cases hf
   rename_i s t x' ho
   simp only [Bool.and_eq_true] at hf
   obtain ⟨⟨hx, h1⟩, h2⟩ := hf
   split at h1
   case h_2 => cases h1
   rename_i e h3
   split at h1
   case h_2 => cases h1
   rename_i h4
   split at h2
   case h_2 => cases h2
   rename_i h5
   exact A14 h ho hd hN h3 h4 h5 hx hs
end Go.Proofs.YthagmdhmgailfaaGreat.Ax
