/- Sorting by the digests: the whole sort. -/
import Derived.Test.YtmpdeifdnbhdiaaGreatDoorV8
namespace Go.Proofs.YtmpdeifdnbhdiaaGreatDoor
open Go.Abs Go.Sort
theorem cW{α β:Type}(x:α)(f:α→Option β):Option.bind (some x) f=f x:=rfl
theorem Bj:∀n:Nat,n≤16→f44 (IntKind.u64.wrap (n:Int))=some ((bitsLen n:Nat):Int)∧n≤bitsLen n+12∧bitsLen n≤100:=by
 intro n hn
 have:∀m:Fin 17,f44 (IntKind.u64.wrap (m.val:Int))=some ((bitsLen m.val:Nat):Int)∧m.val≤bitsLen m.val+12∧bitsLen m.val≤100:=by decide+kernel
 exact this ⟨n,by omega⟩
section
variable{D:List aO} (hD:Ok D)
include hD
theorem IH:∀(k n a b lim:Nat)(wb wp:Bool)(d:Array Int),b -a≤k→a≤b→b≤d.size→Rw D d→b -a≤lim+12→lim≤100→k<n→
 cU n (a:Int) (b:Int) (lim:Int) wb wp d.toList D=some (.ret ((pdq (lt D) d a b lim wb wp).toList,D)):=by
 intro k
 induction k with
 |
  zero=>
  intro n a b lim wb wp d hk hab hb hd hl hl2 hn
  cases n with
  |zero=>omega
  |succ n=>exact tM hD hd hab hb (by omega)
 |
  succ k ih=>
  intro n a b lim wb wp d hk hab hb hd hl hl2 hn
  cases n with
  |zero=>omega
  |succ n=>
  by_cases h12:b -a≤12
  ·exact tM hD hd hab hb h12
  have hs:=hd.sz
  obtain⟨lim1,d1,E1,E2,s1,R1,S1,L1,L2⟩:=Of hd wb hb (by omega) hl hl2
  rw[cU,gJ hab (by omega),if_neg (by simp;omega),if_neg (by simp;omega),s1,cW]
  rw[pdq,if_neg h12,if_neg (show¬lim=0 by omega)]
  dsimp only
  rw[E1,E2]
  obtain⟨p1,p2⟩:=choosePivot_holds (lt D) d1 a b (by omega)
  rw[Q4 hD R1 (by omega) (by omega),cW]
  dsimp only
  generalize choosePivot (lt D) d1 a b=c at*
  obtain⟨pv,hint,d2,E3,E4,E5,s2,R2,S2,P1,P2⟩:=RL R1 (by omega) c p1 p2
  rw[E3,E4,E5,s2,cW]
  dsimp only
  obtain⟨fl,E6,s3⟩:=RN hD R2 (a:=a) (b:=b) (by omega) (by omega) wb wp hint
  rw[E6,s3,cW]
  cases fl with
  |true=>rfl
  |false=>
  simp only[Bool.false_eq_true,if_false]
  rw[RQ hD R2 (a:=a) (pv:=pv) (by omega) (by omega),cW]
  by_cases hq:(decide (a>0)&& !lt D d2[a -1]! d2[pv]!)=true
  ·simp only[hq,if_true]
   obtain⟨g1,g2,g3,g4,g5⟩:=QM hD R2 P1 P2 (by omega)
   rw[g1,cW,cW]
   generalize partitionEqual (lt D) d2 a b pv=r at*
   obtain⟨mid,d4⟩:=r
   dsimp only at*
   rw[dif_pos ⟨g4,g5⟩]
   exact ih n mid b lim1 wb wp d4 (by omega) (by omega) (by omega) g2 (by omega) L2 (by omega)
  ·have hq':(decide (a>0)&& !lt D d2[a -1]! d2[pv]!)=false:=by simpa using hq
   simp only[hq',Bool.false_eq_true,if_false]
   obtain⟨g1,g2,g3⟩:=Q3 hD R2 P1 P2 (by omega)
   obtain⟨r1,r2,_⟩:=partition_holds (lt D) (swo hD) d2 a b pv P1 P2 (by omega)
   rw[cW]
   dsimp only
   rw[g1,cW]
   generalize Go.Sort.partition (lt D) d2 a b pv=r at*
   obtain⟨mid,ap,d4⟩:=r
   dsimp only at*
   have ht:Int.tdiv ((b -a:Nat):Int) 8=(((b -a) / 8:Nat):Int):=rfl
   rw[dif_pos ⟨r1,r2⟩,gJ r1 (by omega),gJ (a:=mid) (b:=b) (by omega) (by omega),ht,aN (x:=(((b -a) / 8:Nat):Int)) (by omega) (by omega),aE (by omega)]
   by_cases hm:mid -a<b -mid
   ·rw[if_pos (by simp;omega),if_pos hm]
    obtain⟨i1,i2,i3⟩:=B7 hD g2 (a:=a) (b:=mid) (lim1:Int) r1 (by omega) (by omega) true true lim1
    rw[i1,cW]
    dsimp only
    have eb:decide ((((b -a) / 8:Nat):Int)≤((mid -a:Nat):Int))=decide (mid -a≥(b -a) / 8):=by
     rw[decide_eq_decide];omega
    rw[eb]
    exact ih n (mid+1) b lim1 _ ap _ (by omega) (by omega) (by omega) i2 (by omega) L2 (by omega)
   ·rw[if_neg (by simp;omega),if_neg hm]
    obtain⟨i1,i2,i3⟩:=B7 hD g2 (a:=mid+1) (b:=b) (lim1:Int) (by omega) (by omega) (by omega) true true lim1
    rw[i1,cW]
    dsimp only
    have eb:decide ((((b -a) / 8:Nat):Int)≤((b -mid:Nat):Int))=decide (b -mid≥(b -a) / 8):=by
     rw[decide_eq_decide];omega
    rw[eb]
    exact ih n a mid lim1 _ ap _ (by omega) (by omega) (by omega) i2 (by omega) L2 (by omega)
theorem v20{d:Array Int}(hd:Rw D d):oG d.toList D=some ((Go.Sort.sort (lt D) d).toList,D):=by
 obtain⟨b1,b2,b3⟩:=Bj d.size hd.sz
 have hs:=hd.sz
 have m:=IH hD d.size bC 0 d.size (bitsLen d.size) true true d (by omega) (by omega) (by omega) hd (by omega) b3 (by simp only[bC];omega)
 unfold oG vw
 rw[eR,b1,cW]
 rw[show((0:Nat):Int)=0 from rfl] at m
 rw[m]
 rfl
end
end Go.Proofs.YtmpdeifdnbhdiaaGreatDoor
