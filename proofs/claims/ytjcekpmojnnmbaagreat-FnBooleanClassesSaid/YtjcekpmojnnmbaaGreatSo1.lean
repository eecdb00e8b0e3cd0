/-
 Go's stable merge (swapRange, rotate, symMerge): what they make of an array. Nothing of a program is named here.
-/
import Derived.Sort.LotA
namespace Go.Proofs.YtjcekpmojnnmbaaGreat.Ax
open Go Go.Sort
variable {α:Type} [Inhabited α] {lt:α→α→Bool}
def swI (a b n k:Nat):Nat:=if a≤k∧k<a+n then k+(b-a) else if b≤k∧k<b+n then k-(b-a) else k
def Ft (a m b k:Nat):Nat:=if k<a then k else if k<a+(b-m) then k+(m-a) else if k<b then k-(b-m) else k
def By (f:Nat→Nat) (d d':Array α):Prop := ∀k,d'[k]! = d[f k]!
theorem Ayt {a b k:Nat}:swI a b 0 k=k:=by
 unfold swI;rw [if_neg (by omega),if_neg (by omega)]
theorem Azm {a b n i:Nat} {d dk:Array α} (hab:a+n≤b) (hb:b+n≤d.size) (hi:i<n) (hs:dk.size=d.size) (h:By (swI a b i) d dk):By (swI a b (i+1)) d (swp dk (a+i) (b+i)):=by
 intro k
 rw [swp_get dk (by omega) (by omega),h,h,h]
 unfold swI
 by_cases h1:k=b+i
 ·subst h1
  rw [if_pos rfl]
  congr 1
  (repeat' split)<;>omega
 ·rw [if_neg h1]
  by_cases h2:k=a+i
  ·subst h2
   rw [if_pos rfl]
   congr 1
   (repeat' split)<;>omega
  ·rw [if_neg h2]
   congr 1
   (repeat' split)<;>omega
theorem Ayy {m i j:Nat} (h:j<i) (hi:i≤m) (hj:0<j) (k:Nat):swI (m-i) m j (Ft (m-(i-j)) m (m+j) k)=Ft (m-i) m (m+j) k:=by
 unfold Ft swI
 (repeat' split)<;>omega
theorem Au4 {m i j:Nat} (h:i<j) (hi:i≤m) (h0:0<i) (k:Nat):swI (m-i) (m+j-i) i (Ft (m-i) m (m+(j-i)) k)=Ft (m-i) m (m+j) k:=by
 unfold Ft swI
 (repeat' split)<;>omega
theorem Aya {m i:Nat} (hi:i≤m) (k:Nat):swI (m-i) m i k=Ft (m-i) m (m+i) k:=by
 unfold Ft swI
 (repeat' split)<;>omega
theorem By.trans {f g:Nat→Nat} {d d1 d2:Array α} (h1:By f d d1) (h2:By g d1 d2):By (fun k=>f (g k)) d d2:=fun k=>by rw [h2,h1]
theorem By.congr {f g:Nat→Nat} {d d1:Array α} (h1:By f d d1) (h : ∀k,f k=g k):By g d d1:=fun k=>by rw [h1,h]
theorem By.self {f:Nat→Nat} {d:Array α} (h : ∀k,f k=k):By f d d:=fun k=>by rw [h]
theorem Az9 {a t:Nat} {d dk:Array α} (ha:a≤t) (ht:t+1<d.size) (hs:dk.size=d.size) (h:By (Ft a (a+1) (t+1)) d dk):By (Ft a (a+1) (t+2)) d (swp dk t (t+1)):=by
 intro k
 rw [swp_get dk (by omega) (by omega),h,h,h]
 unfold Ft
 by_cases h1:k=t+1
 ·subst h1
  rw [if_pos rfl]
  congr 1
  (repeat' split)<;>omega
 ·rw [if_neg h1]
  by_cases h2:k=t
  ·subst h2
   rw [if_pos rfl]
   congr 1
   (repeat' split)<;>omega
  ·rw [if_neg h2]
   congr 1
   (repeat' split)<;>omega
theorem Ayc {m t:Nat} {d dk:Array α} (ht:t+1≤m) (hm:m<d.size) (hs:dk.size=d.size) (h:By (Ft (t+1) m (m+1)) d dk):By (Ft t m (m+1)) d (swp dk (t+1) t):=by
 intro k
 rw [swp_get dk (by omega) (by omega),h,h,h]
 unfold Ft
 by_cases h1:k=t
 ·subst h1
  rw [if_pos rfl]
  congr 1
  (repeat' split)<;>omega
 ·rw [if_neg h1]
  by_cases h2:k=t+1
  ·subst h2
   rw [if_pos rfl]
   congr 1
   (repeat' split)<;>omega
  ·rw [if_neg h2]
   congr 1
   (repeat' split)<;>omega
theorem Ay8 (hS:SWO lt) {a b i:Nat} {d d':Array α} (hi:a+1≤i) (hib:i≤b) (hs:SortedIn lt (a+1) b d) (h1:i=a+1∨lt d[i-1]! d[a]! = true) (h2:i=b∨lt d[i]! d[a]! = false) (h:By (Ft a (a+1) i) d d'):SortedIn lt a b d':=by
 have low : ∀z,a+1≤z→z<i→lt d[a]! d[z]! = false:=fun z hz hzi=>by
  rcases h1 with h1 | h1
  ·omega
  ·have:=hS.asymmA h1
   by_cases e:z=i-1
   ·rw [e];exact this
   ·exact hS.ntrans _ _ _ this (hs z (i-1) hz (by omega) (by omega))
 have high : ∀z,i≤z→z<b→lt d[z]! d[a]! = false:=fun z hz hzb=>by
  rcases h2 with h2 | h2
  ·omega
  ·by_cases e:z=i
   ·rw [e];exact h2
   ·exact hS.ntrans _ _ _ (hs i z (by omega) (by omega) hzb) h2
 have r2 : ∀k,a≤k→k<i-1→Ft a (a+1) i k=k+1:=fun k _ _=>by unfold Ft;(repeat' split)<;>omega
 have r3:Ft a (a+1) i (i-1)=a:=by unfold Ft;(repeat' split)<;>omega
 have r4 : ∀k,i≤k→Ft a (a+1) i k=k:=fun k _=>by unfold Ft;(repeat' split)<;>omega
 intro x y hx hxy hy
 rw [h,h]
 by_cases cy:y<i-1
 ·rw [r2 y (by omega) cy,r2 x hx (by omega)];exact hs _ _ (by omega) (by omega) (by omega)
 ·by_cases cy2:y=i-1
  ·subst cy2
   rw [r3,r2 x hx (by omega)];exact low _ (by omega) (by omega)
  ·rw [r4 y (by omega)]
   by_cases cx:x<i-1
   ·rw [r2 x hx cx];exact hs _ _ (by omega) (by omega) hy
   ·by_cases cx2:x=i-1
    ·subst cx2;rw [r3];exact high _ (by omega) hy
    ·rw [r4 x (by omega)];exact hs _ _ (by omega) hxy hy
theorem Awp (hS:SWO lt) {a m i:Nat} {d d':Array α} (hi:a≤i) (him:i≤m) (hs:SortedIn lt a m d) (h1:i=a∨lt d[m]! d[i-1]! = false) (h2:i=m∨lt d[m]! d[i]! = true) (h:By (Ft i m (m+1)) d d'):SortedIn lt a (m+1) d':=by
 have low : ∀z,a≤z→z<i→lt d[m]! d[z]! = false:=fun z hz hzi=>by
  rcases h1 with h1 | h1
  ·omega
  ·by_cases e:z=i-1
   ·rw [e];exact h1
   ·exact hS.ntrans _ _ _ h1 (hs z (i-1) hz (by omega) (by omega))
 have high : ∀z,i≤z→z<m→lt d[z]! d[m]! = false:=fun z hz hzm=>by
  rcases h2 with h2 | h2
  ·omega
  ·have:=hS.asymmA h2
   by_cases e:z=i
   ·rw [e];exact this
   ·exact hS.ntrans _ _ _ (hs i z (by omega) (by omega) hzm) this
 have r1 : ∀k,k<i→Ft i m (m+1) k=k:=fun k _=>by unfold Ft;(repeat' split)<;>omega
 have r2:Ft i m (m+1) i=m:=by unfold Ft;(repeat' split)<;>omega
 have r3 : ∀k,i<k→k<m+1→Ft i m (m+1) k=k-1:=fun k _ _=>by unfold Ft;(repeat' split)<;>omega
 intro x y hx hxy hy
 rw [h,h]
 by_cases cy:y<i
 ·rw [r1 y cy,r1 x (by omega)];exact hs _ _ hx hxy (by omega)
 ·by_cases cy2:y=i
  ·subst cy2;rw [r2,r1 x hxy];exact low _ hx hxy
  ·rw [r3 y (by omega) hy]
   by_cases cx:x<i
   ·rw [r1 x cx];exact hs _ _ hx (by omega) (by omega)
   ·by_cases cx2:x=i
    ·subst cx2;rw [r2];exact high _ (by omega) (by omega)
    ·rw [r3 x (by omega) (by omega)];exact hs _ _ (by omega) (by omega) (by omega)
structure Cut (lt:α→α→Bool) (a m b mid s:Nat) (d:Array α):Prop where
 as:a≤s
 sm:s≤m
 smid:s≤mid
 me:m≤mid+m-s
 eb:mid+m-s≤b
 low:s=a∨mid+m-s=b∨lt d[mid+m-s]! d[s-1]! = false
 high:s=m∨mid+m-s=m∨lt d[mid+m-s-1]! d[s]! = true
theorem Au0 (hS:SWO lt) {a m b mid s:Nat} {d d':Array α} (hc:Cut lt a m b mid s d) (h1:SortedIn lt a m d) (h2:SortedIn lt m b d) (h:By (Ft s m (mid+m-s)) d d') :
  SortedIn lt a s d'∧SortedIn lt s mid d'∧SortedIn lt mid (mid+m-s) d'∧SortedIn lt (mid+m-s) b d' ∧ ∀x y,a≤x→x<mid→mid≤y→y<b→lt d'[y]! d'[x]! = false:=by
 obtain ⟨c1,c2,c3,c4,c5,c6,c7⟩:=hc
 have r1 : ∀k,k<s→Ft s m (mid+m-s) k=k:=fun k hk=>by unfold Ft;rw [if_pos hk]
 have r2 : ∀k,s≤k→k<mid→Ft s m (mid+m-s) k=k+(m-s):=fun k hk hk2=>by unfold Ft;rw [if_neg (by omega),if_pos (by omega)]
 have r3 : ∀k,mid≤k→k<mid+m-s→Ft s m (mid+m-s) k=k-(mid-s):=fun k hk hk2=>by unfold Ft;rw [if_neg (by omega),if_neg (by omega),if_pos (by omega)];omega
 have r4 : ∀k,mid+m-s≤k→Ft s m (mid+m-s) k=k:=fun k hk=>by unfold Ft;rw [if_neg (by omega),if_neg (by omega),if_neg (by omega)]
 refine ⟨fun x y hx hxy hy=> ?_,fun x y hx hxy hy=> ?_,fun x y hx hxy hy=> ?_,fun x y hx hxy hy=> ?_,fun x y hx hxm hy hyb=> ?_⟩
 ·rw [h,h,r1 x (by omega),r1 y hy];exact h1 _ _ hx hxy (by omega)
 ·rw [h,h,r2 x hx (by omega),r2 y (by omega) hy];exact h2 _ _ (by omega) (by omega) (by omega)
 ·rw [h,h,r3 x hx (by omega),r3 y (by omega) hy];exact h1 _ _ (by omega) (by omega) (by omega)
 ·rw [h,h,r4 x hx,r4 y (by omega)];exact h2 _ _ (by omega) hxy hy
 ·rw [h,h]
  by_cases cx:x<s
  ·rw [r1 x cx]
   by_cases cy:y<mid+m-s
   ·rw [r3 y hy cy];exact h1 _ _ hx (by omega) (by omega)
   ·rw [r4 y (by omega)]
    rcases c6 with c6 | c6 | c6
    ·omega
    ·omega
    ·have e1:lt d[y]! d[mid+m-s]! = false:=by
      by_cases e:y=mid+m-s
      ·rw [e];exact hS.irrefl _
      ·exact h2 _ _ (by omega) (by omega) hyb
     have e2:lt d[s-1]! d[x]! = false:=by
      by_cases e:x=s-1
      ·rw [e];exact hS.irrefl _
      ·exact h1 _ _ hx (by omega) (by omega)
     exact hS.ntrans _ _ _ (hS.ntrans _ _ _ e1 c6) e2
  ·rw [r2 x (by omega) hxm]
   by_cases cy:y<mid+m-s
   ·rw [r3 y hy cy]
    rcases c7 with c7 | c7 | c7
    ·omega
    ·omega
    ·have c7:=hS.asymmA c7
     have e1:lt d[y-(mid-s)]! d[s]! = false:=by
      by_cases e:y-(mid-s)=s
      ·rw [e];exact hS.irrefl _
      ·exact h1 _ _ (by omega) (by omega) (by omega)
     have e2:lt d[mid+m-s-1]! d[x+(m-s)]! = false:=by
      by_cases e:x+(m-s)=mid+m-s-1
      ·rw [e];exact hS.irrefl _
      ·exact h2 _ _ (by omega) (by omega) (by omega)
     exact hS.ntrans _ _ _ (hS.ntrans _ _ _ e1 c7) e2
   ·rw [r4 y (by omega)];exact h2 _ _ (by omega) (by omega) hyb
theorem A3n {a mid b:Nat} {d d1 d2:Array α} (hmid:a≤mid) (hmb:mid≤b) (hb:b≤d.size) (hx : ∀x y,a≤x→x<mid→mid≤y→y<b→lt d[y]! d[x]! = false)
  (p1:PermIn a mid d d1) (s1:SortedIn lt a mid d1) (p2:PermIn mid b d1 d2) (s2:SortedIn lt mid b d2):PermIn a b d d2∧SortedIn lt a b d2:=by
 refine ⟨permIn_trans _ _ _ _ _ (permIn_mono _ _ _ _ _ _ (Nat.le_refl _) hmb hb p1) (permIn_mono _ _ _ _ _ _ hmid (Nat.le_refl _) (by rw [p1.1];exact hb) p2),?_⟩
 have hz1:mid≤d1.size:=by rw [p1.1];omega
 have hz2:b≤d1.size:=by rw [p1.1];omega
 have k1 : ∀x,a≤x→x<mid → ∀y,mid≤y→y<b→lt d[y]! d1[x]! = false:=
  permIn_all d d1 a mid (fun u => ∀y,mid≤y→y<b→lt d[y]! u=false) (by omega) p1 fun x h1 h2 y h3 h4=>hx x y h1 h2 h3 h4
 have k2 : ∀y,mid≤y→y<b → ∀x,a≤x→x<mid→lt d2[y]! d1[x]! = false:=
  permIn_all d1 d2 mid b (fun u => ∀x,a≤x→x<mid→lt u d1[x]! = false) hz2 p2 fun y h1 h2 x h3 h4=>by
   rw [p1.2.1 y (.inr h1)];exact k1 x h3 h4 y h1 h2
 intro x y h1 h2 h3
 by_cases cy:y<mid
 ·rw [p2.2.1 x (.inl (by omega)),p2.2.1 y (.inl cy)];exact s1 x y h1 h2 cy
 ·by_cases cx:x<mid
  ·rw [p2.2.1 x (.inl cx)];exact k2 y (by omega) h3 x h1 cx
  ·exact s2 x y (by omega) h2 h3
theorem SortedIn.gone {a b:Nat} {d:Array α} (h:b≤a):SortedIn lt a b d:=fun x y h1 h2 h3=>by omega
theorem SortedIn.sub {a b a' b':Nat} {d:Array α} (h:SortedIn lt a b d) (h1:a≤a') (h2:b'≤b):SortedIn lt a' b' d:=fun x y c1 c2 c3=>h x y (by omega) c2 (by omega)
theorem SortedIn.same {a b a' b':Nat} {d d':Array α} (h:SortedIn lt a b d) (hp:PermIn a' b' d d') (hd:b≤a'∨b'≤a):SortedIn lt a b d':=fun x y c1 c2 c3=>by
 rw [hp.2.1 x (by omega),hp.2.1 y (by omega)];exact h x y c1 c2 c3
def Ag5 (lt:α→α→Bool) (bs n:Nat) (d:Array α) (a:Nat):Prop := ∀s,SortedIn lt (a+bs*s) (min (a+bs*s+bs) n) d
theorem Ag5.head {bs n a:Nat} {d:Array α} (h:Ag5 lt bs n d a):SortedIn lt a (min (a+bs) n) d:=by
 have:=h 0
 simpa using this
theorem Ag5.tail {bs n a:Nat} {d:Array α} (h:Ag5 lt bs n d a):Ag5 lt bs n d (a+bs):=fun s=>by
 have:=h (s+1)
 rw [Nat.mul_succ] at this
 rwa [show a+bs+bs*s=a+(bs*s+bs) by omega]
theorem Ag5.same {bs n a p q:Nat} {d d':Array α} (h:Ag5 lt bs n d a) (hp:PermIn p q d d') (hq:q≤a):Ag5 lt bs n d' a:=fun s=>SortedIn.same (h s) hp (.inr (by omega))
def Afi (lt:α→α→Bool) (B t:Nat) (d:Array α):Prop := ∀s,s<t→SortedIn lt (B*s) (B*s+B) d
theorem Afi.none {B:Nat} {d:Array α}:Afi lt B 0 d:=fun s h=>absurd h (Nat.not_lt_zero s)
theorem Afi.more {B t p q:Nat} {d d':Array α} (h:Afi lt B t d) (hp:PermIn p q d d') (hle:B*t≤p) (hs:SortedIn lt (B*t) (B*t+B) d'):Afi lt B (t+1) d':=fun s hst=>by
 by_cases e:s=t
 ·subst e;exact hs
 ·have:B*(s+1)≤B*t:=Nat.mul_le_mul_left B (by omega)
  rw [Nat.mul_succ] at this
  exact SortedIn.same (h s (by omega)) hp (.inl (by omega))
theorem Afi.last {B t n p q:Nat} {d d':Array α} (h:Afi lt B t d) (hp:PermIn p q d d') (hle:B*t≤p) (hs:SortedIn lt (B*t) n d') (hn:n<B*t+B):Ag5 lt B n d' 0:=fun s=>by
 rw [Nat.zero_add]
 by_cases e:s<t
 ·have:B*(s+1)≤B*t:=Nat.mul_le_mul_left B (by omega)
  rw [Nat.mul_succ] at this
  exact SortedIn.sub (SortedIn.same (h s e) hp (.inl (by omega))) (Nat.le_refl _) (Nat.min_le_left _ _)
 ·by_cases e2:s=t
  ·subst e2;exact SortedIn.sub hs (Nat.le_refl _) (Nat.min_le_right _ _)
  ·have:B*(t+1)≤B*s:=Nat.mul_le_mul_left B (by omega)
   rw [Nat.mul_succ] at this
   exact SortedIn.gone (by omega)
end Go.Proofs.YtjcekpmojnnmbaaGreat.Ax
