/- Sorting by the digests: insertion, reversal. -/
import Derived.Test.YtmpdeifdnbhdiaaGreatDoorV1
import Derived.Test.YtmpdeifdnbhdiaaGreatDoorF2
namespace Go.Proofs.YtmpdeifdnbhdiaaGreatDoor
open Go.Abs Go.Sort
theorem kj{j:Nat}(h:j≤1000):al (((j+1:Nat):Int) -1)=(j:Int):=by
 rw[aN (by omega) (by omega)];omega
theorem iD{j:Nat}(h0:0<j)(h:j≤1000):al ((j:Int) -1)=((j -1:Nat):Int):=by
 rw[aN (by omega) (by omega)];omega
theorem eR(d:Array Int):d.toList.length=d.size:=by simp
section
variable{D:List aO} (hD:Ok D)
include hD
theorem B3(a b:Nat)(u:Int):∀(j n:Nat)(d:Array Int),Rw D d→j<d.size→j<n→eP (a:Int) (b:Int) D u n (j:Int) d.toList=some (insInner (lt D) a j d).toList∧Rw D (insInner (lt D) a j d)∧(insInner (lt D) a j d).size=d.size
 |j,0,d,hd,h1,h2=>by omega
 |
  0,n+1,d,hd,h1,h2=>by
  refine⟨?_,hd,rfl⟩
  rw[eP,if_neg (by simp)]
  rfl
 |
  j+1,n+1,d,hd,h1,h2=>by
  have hs:=hd.sz
  have u0:insInner (lt D) a (j+1) d=if j+1>a&&lt D d[j+1]! d[j]! then insInner (lt D) a j (swp d (j+1) j) else d:=rfl
  rw[eP]
  by_cases ha:a<j+1
  ·obtain⟨c,e1,e2⟩:=sc hD hd h1 (show j<d.size by omega)
   rw[if_pos (by simpa using by omega),kj (by omega),eR,if_pos (by omega),if_pos (by omega),e1]
   simp only[Option.bind]
   cases hc:lt D d[j+1]! d[j]! with
   |
    true=>
    rw[hc] at e2
    have u1:insInner (lt D) a (j+1) d=insInner (lt D) a j (swp d (j+1) j):=by rw[u0,hc,if_pos (by simp;omega)]
    have hsw:=hd.swp h1 (show j<d.size by omega)
    obtain⟨i1,i2,i3⟩:=B3 a b u j n (swp d (j+1) j) hsw (by rw[size_swp];omega) (by omega)
    rw[u1]
    refine⟨?_,i2,by rw[i3,size_swp]⟩
    simp only[e2,if_true]
    rw[if_pos (by omega),if_pos (by omega),if_pos (by simp;omega),←i1]
    congr 1
    simp only[Int.toNat_natCast]
    exact dh h1 (by omega)
   |
    false=>
    rw[hc] at e2
    have u1:insInner (lt D) a (j+1) d=d:=by rw[u0,hc,if_neg (by simp)]
    rw[u1]
    refine⟨?_,hd,rfl⟩
    simp only[e2,Bool.false_eq_true,if_false]
  ·have u1:insInner (lt D) a (j+1) d=d:=by rw[u0,if_neg (by simp;omega)]
   rw[u1]
   refine⟨?_,hd,rfl⟩
   rw[if_neg (by simpa using by omega)]
   rfl
theorem Jd(a b:Nat):∀(k n i:Nat)(d:Array Int),b -i=k→b≤d.size→i≤1000→Rw D d→k<n→eQ (a:Int) (b:Int) D n (i:Int) d.toList=some (insOuter (lt D) a b i d).toList∧Rw D (insOuter (lt D) a b i d)∧(insOuter (lt D) a b i d).size=d.size:=by
 intro k
 induction k with
 |
  zero=>
  intro n i d hk hb hi hd hn
  cases n with
  |zero=>omega
  |
   succ n=>
   rw[eQ,if_neg (by simpa using by omega),insOuter,if_neg (by omega)]
   exact⟨rfl,hd,rfl⟩
 |
  succ k ih=>
  intro n i d hk hb hi hd hn
  cases n with
  |zero=>omega
  |
   succ n=>
   obtain⟨i1,i2,i3⟩:=B3 hD a b (i:Int) i bC d hd (by omega) (by simp only[bC];omega)
   obtain⟨j1,j2,j3⟩:=ih n (i+1) (insInner (lt D) a i d) (by omega) (by rw[i3];omega) (by have:=hd.sz;omega) i2 (by omega)
   rw[eQ,if_pos (by simpa using by omega),i1]
   simp only[Option.bind]
   have u1:insOuter (lt D) a b i d=insOuter (lt D) a b (i+1) (insInner (lt D) a i d):=by rw[insOuter,if_pos (by omega)]
   rw[aE (by omega),j1,u1]
   exact⟨rfl,j2,by rw[j3,i3]⟩
theorem PV(a b:Nat)(d:Array Int)(hab:a≤100)(hb:b≤d.size)(hd:Rw D d):nH (a:Int) (b:Int) d.toList D=some ((insertionSort (lt D) d a b).toList,D)∧Rw D (insertionSort (lt D) d a b)∧(insertionSort (lt D) d a b).size=d.size:=by
 obtain⟨i1,i2,i3⟩:=Jd hD a b (b -(a+1)) bC (a+1) d rfl hb (by omega) hd (by have:=hd.sz;simp only[bC];omega)
 refine⟨?_,i2,i3⟩
 unfold nH
 rw[aE (by omega),i1]
 rfl
end
theorem Je{D:List aO}:∀(k n i j:Nat)(d:Array Int),j -i≤k→j<d.size→Rw D d→k<n→dM D n (i:Int) (j:Int) d.toList=some (reverseLoop i j d).toList∧Rw D (reverseLoop i j d)∧(reverseLoop i j d).size=d.size:=by
 intro k
 induction k with
 |
  zero=>
  intro n i j d hk hj hd hn
  cases n with
  |zero=>omega
  |
   succ n=>
   rw[dM,if_neg (by simpa using by omega),reverseLoop,if_neg (by omega)]
   exact⟨rfl,hd,rfl⟩
 |
  succ k ih=>
  intro n i j d hk hj hd hn
  have hs:=hd.sz
  cases n with
  |zero=>omega
  |
   succ n=>
   by_cases h:i<j
   ·cases j with
    |zero=>omega
    |succ j=>
    obtain⟨i1,i2,i3⟩:=ih n (i+1) j (swp d i (j+1)) (by omega) (by rw[size_swp];omega) (hd.swp (by omega) hj) (by omega)
    rw[dM,if_pos (by simpa using by omega),aE (by omega),kj (by omega),eR,if_pos (by omega),if_pos (by omega),if_pos (by simp;omega)]
    simp only[Int.toNat_natCast]
    have u1:reverseLoop i (j+1) d=reverseLoop (i+1) j (swp d i (j+1)):=by rw[reverseLoop,if_pos h];rfl
    rw[dh (by omega) hj,i1,u1]
    exact⟨rfl,i2,by rw[i3,size_swp]⟩
   ·rw[dM,if_neg (by simpa using by omega),reverseLoop,if_neg h]
    exact⟨rfl,hd,rfl⟩
theorem QV{D:List aO}(a b:Nat)(d:Array Int)(h0:0<b)(hb:b≤d.size)(hd:Rw D d):nI (a:Int) (b:Int) d.toList D=some ((reverseRange d a b).toList,D)∧Rw D (reverseRange d a b)∧(reverseRange d a b).size=d.size:=by
 have hs:=hd.sz
 obtain⟨i1,i2,i3⟩:=Je (D:=D) 1000 bC a (b -1) d (by omega) (by omega) hd (by simp only[bC];omega)
 refine⟨?_,i2,i3⟩
 unfold nI
 rw[show al ((b:Int) -1)=((b -1:Nat):Int) from by rw[aN (by omega) (by omega)];omega,i1]
 rfl
end Go.Proofs.YtmpdeifdnbhdiaaGreatDoor
