/- Sorting by the digests: the partitions. -/
import Derived.Test.YtmpdeifdnbhdiaaGreatDoorV2
import Derived.Test.YtmpdeifdnbhdiaaGreatDoorF3
namespace Go.Proofs.YtmpdeifdnbhdiaaGreatDoor
open Go.Abs Go.Sort
theorem gR{p:Int→Bool}{d:Array Int}{j:Nat}:∀(k i:Nat),j+1 -i=k→i≤j+1→i≤scanUp p d j i∧scanUp p d j i≤j+1:=by
 intro k
 induction k with
 |zero=>intro i hk hi;rw[scanUp,if_neg (by simp;omega)];omega
 |
  succ k ih=>
  intro i hk hi
  rw[scanUp]
  split
  ·have:=ih (i+1) (by omega) (by omega);omega
  ·omega
theorem scanDown_le{p:Int→Bool}{d:Array Int}{i:Nat}:∀(j:Nat),i≤j+1→scanDown p d i j≤j∧i≤scanDown p d i j+1
 |0,h=>by rw[scanDown];omega
 |
  j+1,h=>by
  rw[scanDown]
  split
  ·rename_i hc
   simp only[Bool.and_eq_true,decide_eq_true_eq] at hc
   have:=scanDown_le (p:=p) (d:=d) (i:=i) j (by omega);omega
  ·omega
theorem wS{p:Int→Bool}{d:Array Int}{j:Nat}:∀(k i:Nat),j+1 -i=k→scanUp p d j i≤j→p d[scanUp p d j i]! =false:=by
 intro k
 induction k with
 |
  zero=>
  intro i hk h
  have u:scanUp p d j i=i:=by rw[scanUp,if_neg (by simp;omega)]
  omega
 |
  succ k ih=>
  intro i hk h
  by_cases hc:(i≤j&&p d[i]!)=true
  ·have u:scanUp p d j i=scanUp p d j (i+1):=by rw[scanUp,if_pos hc]
   rw[u] at h ⊢
   exact ih (i+1) (by omega) h
  ·have u:scanUp p d j i=i:=by rw[scanUp,if_neg hc]
   rw[u] at h ⊢
   simpa[h] using hc
theorem lv{q:Int→Bool}{d:Array Int}{i:Nat}(hi:0<i):∀(j:Nat),i≤scanDown q d i j→q d[scanDown q d i j]! =false
 |
  0,h=>by
  have u:scanDown q d i 0=0:=rfl
  omega
 |
  j+1,h=>by
  have u0:scanDown q d i (j+1)=if i≤j+1&&q d[j+1]! then scanDown q d i j else j+1:=rfl
  by_cases hc:(i≤j+1&&q d[j+1]!)=true
  ·rw[if_pos hc] at u0
   rw[u0] at h ⊢
   exact lv hi j h
  ·rw[if_neg hc] at u0
   rw[u0] at h ⊢
   simpa[h] using hc
theorem uM{p q:Int→Bool}{d:Array Int}{i j:Nat}(hpq:∀x,q x= !p x)(hi:0<i)(hij:i≤j+1)(h:scanUp p d j i≤scanDown q d (scanUp p d j i) j):scanUp p d j i<scanDown q d (scanUp p d j i) j:=by
 have u:=gR (p:=p) (d:=d) (j:=j) _ i rfl hij
 have w:=scanDown_le (p:=q) (d:=d) (i:=scanUp p d j i) j (by omega)
 have h1:=wS (p:=p) (d:=d) (j:=j) _ i rfl (by omega)
 have h2:=lv (q:=q) (d:=d) (i:=scanUp p d j i) (by omega) j h
 rcases Nat.lt_or_ge (scanUp p d j i) (scanDown q d (scanUp p d j i) j) with g|g
 ·exact g
 ·have e:scanDown q d (scanUp p d j i) j=scanUp p d j i:=by omega
  rw[e,hpq,h1] at h2
  cases h2
section
variable{D:List aO} (hD:Ok D)
include hD
theorem CX{d:Array Int}(hd:Rw D d){a j:Nat}(ha:a<d.size)(hj:j<d.size):∀(k n i:Nat),j+1 -i=k→i≤j+1→k<n→fh (a:Int) D (j:Int) d.toList n (i:Int)=some ((scanUp (fun x=>lt D x d[a]!) d j i:Nat):Int):=by
 have hs:=hd.sz
 intro k
 induction k with
 |
  zero=>
  intro n i hk hi hn
  cases n with
  |zero=>omega
  |
   succ n=>
   rw[fh,if_neg (by simpa using by omega),scanUp,if_neg (by simp;omega)]
   rfl
 |
  succ k ih=>
  intro n i hk hi hn
  cases n with
  |zero=>omega
  |
   succ n=>
   obtain⟨c,e1,e2⟩:=sc hD hd (show i<d.size by omega) ha
   rw[fh,if_pos (by simpa using by omega),eR,if_pos (by omega),if_pos (by omega),e1,scanUp]
   simp only[Option.bind]
   cases hc:lt D d[i]! d[a]! with
   |
    true=>
    rw[hc] at e2
    simp only[e2,if_true]
    rw[if_pos (by simp;omega),aE (by omega),ih n (i+1) (by omega) (by omega) (by omega)]
   |
    false=>
    rw[hc] at e2
    simp only[e2,Bool.and_false,Bool.false_eq_true,if_false]
theorem yt{d:Array Int}(hd:Rw D d){a i:Nat}(ha:a<d.size)(hi:0<i):∀(j n:Nat),j<d.size→j<n→fj (a:Int) D d.toList (i:Int) n (j:Int)=some ((scanDown (fun x=> !lt D x d[a]!) d i j:Nat):Int)
 |j,0,h1,h2=>by omega
 |
  0,n+1,h1,h2=>by
  rw[fj,if_neg (by simpa using by omega),scanDown]
  rfl
 |
  j+1,n+1,h1,h2=>by
  have hs:=hd.sz
  rw[fj,scanDown]
  by_cases h:i≤j+1
  ·obtain⟨c,e1,e2⟩:=sc hD hd h1 ha
   rw[if_pos (by simpa using by omega),eR,if_pos (by omega),if_pos (by omega),e1]
   simp only[Option.bind]
   cases hc:lt D d[j+1]! d[a]! with
   |
    true=>
    rw[hc] at e2
    simp only[e2,Bool.not_true,Bool.and_false,Bool.false_eq_true,if_false]
   |
    false=>
    rw[hc] at e2
    simp only[e2,Bool.not_false,if_true]
    rw[if_pos (by simp;omega),kj (by omega),yt hd ha hi j n (by omega) (by omega)]
  ·rw[if_neg (by simpa using by omega),if_neg (by simp;omega)]
   rfl
theorem JJ{a:Nat}:∀(k n i j:Nat)(d:Array Int),j+1 -i≤k→Rw D d→a<d.size→j<d.size→0<i→i≤j+1→k+1<n→
 fm (a:Int) D n (i:Int) (j:Int) d.toList=some ((((partLoop (lt D) a i j d).1:Nat):Int),(partLoop (lt D) a i j d).2.toList)∧Rw D (partLoop (lt D) a i j d).2∧(partLoop (lt D) a i j d).2.size=d.size∧(partLoop (lt D) a i j d).1≤j:=by
 intro k
 induction k with
 |
  zero=>
  intro n i j d hk hd ha hj hi hij hn
  cases n with
  |zero=>omega
  |
   succ n=>
   have hs:=hd.sz
   have u:=gR (p:=fun x=>lt D x d[a]!) (d:=d) _ i rfl hij
   have e1:=CX hD hd ha hj _ bC i rfl hij (by simp only[bC];omega)
   have e2:=yt hD hd ha (i:=scanUp (fun x=>lt D x d[a]!) d j i) (by omega) j bC hj (by simp only[bC];omega)
   have w:=scanDown_le (p:=fun x=> !lt D x d[a]!) (d:=d) (i:=scanUp (fun x=>lt D x d[a]!) d j i) j (by omega)
   rw[fm,e1]
   simp only[Option.bind]
   rw[e2,partLoop]
   simp only[gt_iff_lt]
   rw[if_pos (by simpa using by omega),if_pos (by omega)]
   exact⟨rfl,hd,rfl,w.1⟩
 |
  succ k ih=>
  intro n i j d hk hd ha hj hi hij hn
  cases n with
  |zero=>omega
  |
   succ n=>
   have hs:=hd.sz
   have u:=gR (p:=fun x=>lt D x d[a]!) (d:=d) _ i rfl hij
   have e1:=CX hD hd ha hj _ bC i rfl hij (by simp only[bC];omega)
   have e2:=yt hD hd ha (i:=scanUp (fun x=>lt D x d[a]!) d j i) (by omega) j bC hj (by simp only[bC];omega)
   have w:=scanDown_le (p:=fun x=> !lt D x d[a]!) (d:=d) (i:=scanUp (fun x=>lt D x d[a]!) d j i) j (by omega)
   rw[fm,e1]
   simp only[Option.bind]
   rw[e2,partLoop]
   simp only[gt_iff_lt]
   have ne:=uM (p:=fun x=>lt D x d[a]!) (q:=fun x=> !lt D x d[a]!) (d:=d) (j:=j) (fun _=>rfl) hi hij
   generalize scanUp (fun x=>lt D x d[a]!) d j i=i2 at*
   generalize scanDown (fun x=> !lt D x d[a]!) d i2 j=j2 at*
   by_cases hc:j2<i2
   ·rw[if_pos (by simpa using by omega),if_pos hc]
    exact⟨rfl,hd,rfl,w.1⟩
   ·rw[if_neg (by simpa using by omega),if_neg hc,eR,if_pos (by omega),if_pos (by omega),if_pos (by simp;omega),dif_pos (by omega)]
    obtain⟨i1,i2',i3,i4⟩:=ih n (i2+1) (j2 -1) (swp d i2 j2) (by omega) (hd.swp (by omega) (by omega)) (by rw[size_swp];omega) (by rw[size_swp];omega) (by omega) (by omega) (by omega)
    simp only[Int.toNat_natCast]
    rw[dh (by omega) (by omega),aE (by omega),iD (show 0<j2 by omega) (by omega),i1]
    exact⟨rfl,i2',by rw[i3,size_swp],by omega⟩
theorem JK{d:Array Int}(hd:Rw D d){a b p:Nat}(ha:a<d.size)(hp:p<d.size)(hb:b≤d.size)(hb0:0<b):∀(k n i:Nat),b -i=k→i≤b→k<n→ff (a:Int) (b:Int) (p:Int) d.toList D n (i:Int)=some ((scanUp (fun x=>lt D x (swp d a p)[a]!) (swp d a p) (b -1) i:Nat):Int):=by
 have hs:=hd.sz
 have hw:=hd.swp ha hp
 intro k
 induction k with
 |
  zero=>
  intro n i hk hi hn
  cases n with
  |zero=>omega
  |
   succ n=>
   rw[ff,if_neg (by rw[aN (by omega) (by omega)];simpa using by omega),scanUp,if_neg (by simp;omega)]
   rfl
 |
  succ k ih=>
  intro n i hk hi hn
  cases n with
  |zero=>omega
  |
   succ n=>
   obtain⟨c,e1,e2⟩:=sc hD hw (i:=i) (j:=a) (by rw[size_swp];omega) (by rw[size_swp];omega)
   rw[ff,if_pos (by rw[aN (by omega) (by omega)];simpa using by omega)]
   simp only[Int.toNat_natCast]
   rw[dh ha hp,eR,size_swp,if_pos (by omega),if_pos (by omega),e1,scanUp]
   simp only[Option.bind]
   cases hc:lt D (swp d a p)[i]! (swp d a p)[a]! with
   |
    true=>
    rw[hc] at e2
    simp only[e2,if_true]
    rw[if_pos (by simp;omega),aE (by omega),ih n (i+1) (by omega) (by omega) (by omega)]
   |
    false=>
    rw[hc] at e2
    simp only[e2,Bool.and_false,Bool.false_eq_true,if_false]
theorem CY{d:Array Int}(hd:Rw D d){a p i:Nat}(ha:a<d.size)(hp:p<d.size)(hi:0<i):∀(j n:Nat),j<d.size→j<n→fg (a:Int) (p:Int) d.toList D (i:Int) n (j:Int)=some ((scanDown (fun x=> !lt D x (swp d a p)[a]!) (swp d a p) i j:Nat):Int)
 |j,0,h1,h2=>by omega
 |
  0,n+1,h1,h2=>by
  rw[fg,if_neg (by simpa using by omega),scanDown]
  rfl
 |
  j+1,n+1,h1,h2=>by
  have hs:=hd.sz
  rw[fg,scanDown]
  by_cases h:i≤j+1
  ·obtain⟨c,e1,e2⟩:=sc hD (hd.swp ha hp) (i:=j+1) (j:=a) (by rw[size_swp];omega) (by rw[size_swp];omega)
   rw[if_pos (by simpa using by omega)]
   simp only[Int.toNat_natCast]
   rw[dh ha hp,eR,size_swp,if_pos (by omega),if_pos (by omega),e1]
   simp only[Option.bind]
   cases hc:lt D (swp d a p)[j+1]! (swp d a p)[a]! with
   |
    true=>
    rw[hc] at e2
    simp only[e2,Bool.not_true,Bool.and_false,Bool.false_eq_true,if_false]
   |
    false=>
    rw[hc] at e2
    simp only[e2,Bool.not_false,if_true]
    rw[if_pos (by simp;omega),kj (by omega),CY hd ha hp hi j n (by omega) (by omega)]
  ·rw[if_neg (by simpa using by omega),if_neg (by simp;omega)]
   rfl
theorem Q3{d:Array Int}(hd:Rw D d){a b p:Nat}(hap:a≤p)(hpb:p<b)(hb:b≤d.size):
 rL (a:Int) (b:Int) (p:Int) d.toList D=some ((((Go.Sort.partition (lt D) d a b p).1:Nat):Int),(Go.Sort.partition (lt D) d a b p).2.1,(Go.Sort.partition (lt D) d a b p).2.2.toList,D)∧Rw D (Go.Sort.partition (lt D) d a b p).2.2∧(Go.Sort.partition (lt D) d a b p).2.2.size=d.size:=by
 have hs:=hd.sz
 have ha:a<d.size:=by omega
 have hp:p<d.size:=by omega
 have hw:=hd.swp ha hp
 have sw:(swp d a p).size=d.size:=size_swp d a p
 have u:=gR (p:=fun x=>lt D x (swp d a p)[a]!) (d:=swp d a p) (j:=b -1) _ (a+1) rfl (by omega)
 have e1:=JK hD hd ha hp hb (by omega) _ bC (a+1) rfl (by omega) (by simp only[bC];omega)
 have e2:=CY hD hd ha hp (i:=scanUp (fun x=>lt D x (swp d a p)[a]!) (swp d a p) (b -1) (a+1)) (by omega) (b -1) bC (by omega) (by simp only[bC];omega)
 have w:=scanDown_le (p:=fun x=> !lt D x (swp d a p)[a]!) (d:=swp d a p) (i:=scanUp (fun x=>lt D x (swp d a p)[a]!) (swp d a p) (b -1) (a+1)) (b -1) (by omega)
 unfold rL Go.Sort.partition
 rw[eR,if_pos (by omega),if_pos (by omega),if_pos (by simp;omega),aE (by omega),e1]
 simp only[Option.bind,gt_iff_lt]
 rw[show al ((b:Int) -1)=((b -1:Nat):Int) from by rw[aN (by omega) (by omega)];omega,e2]
 simp only[Int.toNat_natCast]
 rw[dh ha hp]
 have ne:=uM (p:=fun x=>lt D x (swp d a p)[a]!) (q:=fun x=> !lt D x (swp d a p)[a]!) (d:=swp d a p) (j:=b -1) (i:=a+1) (fun _=>rfl) (by omega) (by omega)
 generalize scanUp (fun x=>lt D x (swp d a p)[a]!) (swp d a p) (b -1) (a+1)=i2 at*
 generalize scanDown (fun x=> !lt D x (swp d a p)[a]!) (swp d a p) i2 (b -1)=j2 at*
 by_cases hc:j2<i2
 ·rw[if_pos (by simpa using by omega),if_pos hc,eR,sw,if_pos (by omega),if_pos (by omega),if_pos (by simp;omega),dh (by omega) (by omega)]
  exact⟨rfl,hw.swp (by omega) (by omega),by rw[size_swp,sw]⟩
 ·rw[if_neg (by simpa using by omega),if_neg hc,eR,sw,if_pos (by omega),if_pos (by omega),if_pos (by simp;omega),dh (by omega) (by omega)]
  obtain⟨g1,g2,g3,g4⟩:=JJ hD (a:=a) 1000 bC (i2+1) (j2 -1) (swp (swp d a p) i2 j2) (by omega) (hw.swp (by omega) (by omega)) (by rw[size_swp];omega) (by rw[size_swp];omega) (by omega) (by omega) (by simp only[bC];omega)
  rw[size_swp,sw] at g3
  rw[aE (by omega),iD (show 0<j2 by omega) (by omega),g1]
  generalize partLoop (lt D) a (i2+1) (j2 -1) (swp (swp d a p) i2 j2)=r at*
  simp only[Option.bind]
  rw[eR,if_pos (by omega),if_pos (by omega),if_pos (by simp;omega)]
  simp only[Int.toNat_natCast]
  rw[dh (by omega) (by omega)]
  exact⟨rfl,g2.swp (by omega) (by omega),by rw[size_swp,g3]⟩
end
end Go.Proofs.YtmpdeifdnbhdiaaGreatDoor
