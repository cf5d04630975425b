/- Sorting by the digests: the scan of a sorted row, the other partition. -/
import Derived.Test.YtmpdeifdnbhdiaaGreatDoorV5
namespace Go.Proofs.YtmpdeifdnbhdiaaGreatDoor
open Go.Abs Go.Sort
theorem KP:bC=(bC -1)+1:=rfl
section
variable{D:List aO} (hD:Ok D)
include hD
theorem Jb{d:Array Int}(hd:Rw D d){a b:Nat}(u:Int)(hb:b≤d.size):∀(k n i:Nat),b -i=k→0<i→i≤1000→k<n→eS (a:Int) (b:Int) D u d.toList n (i:Int)=some ((scanSorted (lt D) d b i:Nat):Int):=by
 have hs:=hd.sz
 intro k
 induction k with
 |
  zero=>
  intro n i hk h0 h1 hn
  cases n with
  |zero=>omega
  |
   succ n=>
   rw[eS,if_neg (by simpa using by omega),scanSorted,if_neg (by simp;omega)]
   rfl
 |
  succ k ih=>
  intro n i hk h0 h1 hn
  cases n with
  |zero=>omega
  |
   succ n=>
   obtain⟨c,e1,e2⟩:=sc hD hd (i:=i) (j:=i -1) (by omega) (by omega)
   rw[eS,if_pos (by simpa using by omega),iD h0 (by omega),eR,if_pos (by omega),if_pos (by omega),e1,scanSorted]
   simp only[Option.bind]
   cases hc:lt D d[i]! d[i -1]! with
   |
    true=>
    rw[hc] at e2
    simp only[e2,Bool.not_true,Bool.and_false,Bool.false_eq_true,if_false]
   |
    false=>
    rw[hc] at e2
    simp only[e2,Bool.not_false,if_true]
    rw[if_pos (by simp;omega),aE (by omega),ih n (i+1) (by omega) (by omega) (by omega) (by omega)]
theorem QL{d:Array Int}(hd:Rw D d){a b:Nat}(hab:a<b)(hb:b≤d.size):nK (a:Int) (b:Int) d.toList D=some ((partialInsertionSort (lt D) d a b).2,(partialInsertionSort (lt D) d a b).1.toList,D)∧(partialInsertionSort (lt D) d a b).1=d:=by
 have hs:=hd.sz
 have e:=Jb hD hd (a:=a) 0 hb _ bC (a+1) rfl (by omega) (by omega) (by simp only[bC];omega)
 unfold nK partialInsertionSort partialIns
 simp only
 rw[KP,gQ,if_pos (by decide),aE (by omega),e]
 simp only[Option.bind]
 by_cases h:scanSorted (lt D) d b (a+1)=b
 ·rw[if_pos (by simp[h]),if_pos h]
  exact⟨rfl,rfl⟩
 ·rw[if_neg (by simp;omega),if_neg h,gJ (by omega) (by omega),if_pos (by simp;omega),if_pos (by omega)]
  exact⟨rfl,rfl⟩
theorem B2{d:Array Int}(hd:Rw D d){a j:Nat}(ha:a<d.size)(hj:j<d.size):∀(k n i:Nat),j+1 -i=k→i≤j+1→k<n→eT (a:Int) D (j:Int) d.toList n (i:Int)=some ((scanUp (fun x=> !lt D d[a]! x) d j i:Nat):Int):=by
 have hs:=hd.sz
 intro k
 induction k with
 |
  zero=>
  intro n i hk hi hn
  cases n with
  |zero=>omega
  |
   succ n=>
   rw[eT,if_neg (by simpa using by omega),scanUp,if_neg (by simp;omega)]
   rfl
 |
  succ k ih=>
  intro n i hk hi hn
  cases n with
  |zero=>omega
  |
   succ n=>
   obtain⟨c,e1,e2⟩:=sc hD hd ha (show i<d.size by omega)
   rw[eT,if_pos (by simpa using by omega),eR,if_pos (by omega),if_pos (by omega),e1,scanUp]
   simp only[Option.bind]
   cases hc:lt D d[a]! d[i]! with
   |
    true=>
    rw[hc] at e2
    simp only[e2,Bool.not_true,Bool.and_false,Bool.false_eq_true,if_false]
   |
    false=>
    rw[hc] at e2
    simp only[e2,Bool.not_false,if_true]
    rw[if_pos (by simp;omega),aE (by omega),ih n (i+1) (by omega) (by omega) (by omega)]
theorem xY{d:Array Int}(hd:Rw D d){a i:Nat}(ha:a<d.size)(hi:0<i):∀(j n:Nat),j<d.size→j<n→eU (a:Int) D d.toList (i:Int) n (j:Int)=some ((scanDown (fun x=>lt D d[a]! x) d i j:Nat):Int)
 |j,0,h1,h2=>by omega
 |
  0,n+1,h1,h2=>by
  rw[eU,if_neg (by simpa using by omega),scanDown]
  rfl
 |
  j+1,n+1,h1,h2=>by
  have hs:=hd.sz
  rw[eU,scanDown]
  by_cases h:i≤j+1
  ·obtain⟨c,e1,e2⟩:=sc hD hd ha h1
   rw[if_pos (by simpa using by omega),eR,if_pos (by omega),if_pos (by omega),e1]
   simp only[Option.bind]
   cases hc:lt D d[a]! d[j+1]! with
   |
    true=>
    rw[hc] at e2
    simp only[e2,if_true]
    rw[if_pos (by simp;omega),kj (by omega),xY hd ha hi j n (by omega) (by omega)]
   |
    false=>
    rw[hc] at e2
    simp only[e2,Bool.and_false,Bool.false_eq_true,if_false]
  ·rw[if_neg (by simpa using by omega),if_neg (by simp;omega)]
   rfl
theorem Jc{a:Nat}:∀(k n i j:Nat)(d:Array Int),j+1 -i≤k→Rw D d→a<d.size→j<d.size→0<i→i≤j+1→k+1<n→
 eV (a:Int) D n (i:Int) (j:Int) d.toList=some ((((partEqLoop (lt D) a i j d).1:Nat):Int),(partEqLoop (lt D) a i j d).2.toList)∧Rw D (partEqLoop (lt D) a i j d).2∧(partEqLoop (lt D) a i j d).2.size=d.size∧i≤(partEqLoop (lt D) a i j d).1∧(partEqLoop (lt D) a i j d).1≤j+1:=by
 intro k
 induction k with
 |
  zero=>
  intro n i j d hk hd ha hj hi hij hn
  cases n with
  |zero=>omega
  |
   succ n=>
   have hs:=hd.sz
   have u:=gR (p:=fun x=> !lt D d[a]! x) (d:=d) _ i rfl hij
   have e1:=B2 hD hd ha hj _ bC i rfl hij (by simp only[bC];omega)
   have e2:=xY hD hd ha (i:=scanUp (fun x=> !lt D d[a]! x) d j i) (by omega) j bC hj (by simp only[bC];omega)
   have w:=scanDown_le (p:=fun x=>lt D d[a]! x) (d:=d) (i:=scanUp (fun x=> !lt D d[a]! x) d j i) j (by omega)
   rw[eV,e1]
   simp only[Option.bind]
   rw[e2,partEqLoop]
   simp only[gt_iff_lt]
   rw[if_pos (by simpa using by omega),if_pos (by omega)]
   exact⟨rfl,hd,rfl,u.1,u.2⟩
 |
  succ k ih=>
  intro n i j d hk hd ha hj hi hij hn
  cases n with
  |zero=>omega
  |
   succ n=>
   have hs:=hd.sz
   have u:=gR (p:=fun x=> !lt D d[a]! x) (d:=d) _ i rfl hij
   have e1:=B2 hD hd ha hj _ bC i rfl hij (by simp only[bC];omega)
   have e2:=xY hD hd ha (i:=scanUp (fun x=> !lt D d[a]! x) d j i) (by omega) j bC hj (by simp only[bC];omega)
   have w:=scanDown_le (p:=fun x=>lt D d[a]! x) (d:=d) (i:=scanUp (fun x=> !lt D d[a]! x) d j i) j (by omega)
   rw[eV,e1]
   simp only[Option.bind]
   rw[e2,partEqLoop]
   simp only[gt_iff_lt]
   have ne:=uM (p:=fun x=> !lt D d[a]! x) (q:=fun x=>lt D d[a]! x) (d:=d) (j:=j) (fun x=>(Bool.not_not _).symm) hi hij
   generalize scanUp (fun x=> !lt D d[a]! x) d j i=i2 at*
   generalize scanDown (fun x=>lt D d[a]! x) d i2 j=j2 at*
   by_cases hc:j2<i2
   ·rw[if_pos (by simpa using by omega),if_pos hc]
    exact⟨rfl,hd,rfl,u.1,u.2⟩
   ·rw[if_neg (by simpa using by omega),if_neg hc,eR,if_pos (by omega),if_pos (by omega),if_pos (by simp;omega),dif_pos (by omega)]
    obtain⟨i1,i2',i3,i4,i5⟩:=ih n (i2+1) (j2 -1) (swp d i2 j2) (by omega) (hd.swp (by omega) (by omega)) (by rw[size_swp];omega) (by rw[size_swp];omega) (by omega) (by omega) (by omega)
    simp only[Int.toNat_natCast]
    rw[dh (by omega) (by omega),aE (by omega),iD (by omega) (by omega),i1]
    exact⟨rfl,i2',by rw[i3,size_swp],by omega,by omega⟩
theorem QM{d:Array Int}(hd:Rw D d){a b p:Nat}(hap:a≤p)(hpb:p<b)(hb:b≤d.size):
 qe (a:Int) (b:Int) (p:Int) d.toList D=some ((((partitionEqual (lt D) d a b p).1:Nat):Int),(partitionEqual (lt D) d a b p).2.toList,D)∧Rw D (partitionEqual (lt D) d a b p).2∧(partitionEqual (lt D) d a b p).2.size=d.size∧a<(partitionEqual (lt D) d a b p).1∧(partitionEqual (lt D) d a b p).1≤b:=by
 have hs:=hd.sz
 have ha:a<d.size:=by omega
 have hp:p<d.size:=by omega
 have hw:=hd.swp ha hp
 have sw:(swp d a p).size=d.size:=size_swp d a p
 obtain⟨g1,g2,g3,g4,g5⟩:=Jc hD (a:=a) 1000 bC (a+1) (b -1) (swp d a p) (by omega) hw (by omega) (by omega) (by omega) (by omega) (by simp only[bC];omega)
 unfold qe partitionEqual
 rw[eR,if_pos (by omega),if_pos (by omega),if_pos (by simp;omega),aE (by omega),iD (by omega) (by omega)]
 simp only[Int.toNat_natCast]
 rw[dh ha hp,g1]
 exact⟨rfl,g2,by rw[g3,sw],by omega,by omega⟩
end
end Go.Proofs.YtmpdeifdnbhdiaaGreatDoor
