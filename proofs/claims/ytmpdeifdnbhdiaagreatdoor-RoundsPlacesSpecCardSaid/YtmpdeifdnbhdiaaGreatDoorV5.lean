/- Sorting by the digests: the patterns, the scan of a sorted row, the other partition. -/
import Derived.Test.YtmpdeifdnbhdiaaGreatDoorV4
namespace Go.Proofs.YtmpdeifdnbhdiaaGreatDoor
open Go.Abs Go.Sort
theorem di{D:List aO}{d:Array Int}{a b i o:Nat}{y1 u X:Int}(n:Nat)(hi:i<d.size)(ho:a+o<d.size)(hs:d.size≤1000)(hab:a≤b)(hb:b≤1000)(h8:8≤b -a)(hlim:i≤a+(b -a) / 4*2+1)
 (hx:pt u=some (X,X)) (hw:(if((b -a:Nat):Int)≤al (aq .and .u64 X (IntKind.u64.wrap (y1 -1))) then al (al (aq .and .u64 X (IntKind.u64.wrap (y1 -1))) -((b -a:Nat):Int)) else al (aq .and .u64 X (IntKind.u64.wrap (y1 -1))))=(o:Int)):
 dj (a:Int) (b:Int) D y1 (n+1) (i:Int) d.toList u=dj (a:Int) (b:Int) D y1 n ((i+1:Nat):Int) (swp d i (a+o)).toList X:=by
 have q2:=mL (a:=a) (b:=b) 2 (by omega) (by omega) (by omega)
 have hw':al ((a:Int)+(o:Int))=((a+o:Nat):Int):=by rw[aN (by omega) (by omega)];omega
 have Sd:(b -a) / 4*2≤1000:=by omega
 rw[dj]
 rw[show((2:Nat):Int)=2 from rfl] at q2
 rw[q2,aE (by omega),if_pos (by simpa using by omega),hx]
 simp only[Option.bind]
 rw[gJ hab hb]
 have key:(if decide (((b -a:Nat):Int)≤al (aq .and .u64 X (IntKind.u64.wrap (y1 -1))))=true then some (al (al (aq .and .u64 X (IntKind.u64.wrap (y1 -1))) -((b -a:Nat):Int))) else some (al (aq .and .u64 X (IntKind.u64.wrap (y1 -1)))))=some (o:Int):=by
  rw[←hw]
  simp only[decide_eq_true_eq]
  split<;>rfl
 rw[key]
 simp only
 rw[hw',eR,if_pos (by omega),if_pos (by omega),if_pos (by simp;omega)]
 simp only[Int.toNat_natCast]
 rw[dh hi ho,aE (by omega)]
theorem nB{D:List aO}{l:List Int}{a b i:Nat}{y1 u:Int}(n:Nat)(hab:a≤b)(hb:b≤1000)(hlim:a+(b -a) / 4*2+1<i):dj (a:Int) (b:Int) D y1 (n+1) (i:Int) l u=some l:=by
 have q2:=mL (a:=a) (b:=b) 2 (by omega) (by omega) (by omega)
 rw[show((2:Nat):Int)=2 from rfl] at q2
 have Sd:(b -a) / 4*2≤1000:=by omega
 rw[dj,q2,aE (by omega),if_neg (by simpa using by omega)]
theorem FT:bC=(bC -4)+1+1+1+1:=rfl
theorem Kb{D:List aO}{d:Array Int}(hd:Rw D d){a:Nat}(hb:a+13≤d.size):fK (a:Int) ((a+13:Nat):Int) d.toList D=some ((breakPatterns d a (a+13)).toList,D)∧Rw D (breakPatterns d a (a+13))∧(breakPatterns d a (a+13)).size=d.size:=by
 have hs:=hd.sz
 have hL:a+13 -a=13:=by omega
 have t:breakPatterns d a (a+13)=swp (swp (swp d (a+5) (a+0)) (a+6) (a+11)) (a+7) (a+5):=by
  unfold breakPatterns
  simp only[hL,breakStep]
  rw[if_pos (by decide),show a+13 / 4*2 -1=a+5 from by omega]
  rw[show xorNext (UInt64.ofNat 13)=14069506893 from by decide+kernel,show xorNext 14069506893=14988908846326605643 from by decide+kernel,show xorNext 14988908846326605643=3428281591454193221 from by decide+kernel]
  rw[show(if(14069506893:UInt64).toNat &&& (1 <<< bitsLen 13 -1)≥13 then((14069506893:UInt64).toNat &&& (1 <<< bitsLen 13 -1)) -13 else(14069506893:UInt64).toNat &&& (1 <<< bitsLen 13 -1))=0 from by decide+kernel,show(if(14988908846326605643:UInt64).toNat &&& (1 <<< bitsLen 13 -1)≥13 then((14988908846326605643:UInt64).toNat &&& (1 <<< bitsLen 13 -1)) -13 else(14988908846326605643:UInt64).toNat &&& (1 <<< bitsLen 13 -1))=11 from by decide+kernel,show(if(3428281591454193221:UInt64).toNat &&& (1 <<< bitsLen 13 -1)≥13 then((3428281591454193221:UInt64).toNat &&& (1 <<< bitsLen 13 -1)) -13 else(3428281591454193221:UInt64).toNat &&& (1 <<< bitsLen 13 -1))=5 from by decide+kernel]
 have w1:=hd.swp (i:=a+5) (j:=a+0) (by omega) (by omega)
 have w2:=w1.swp (i:=a+6) (j:=a+11) (by rw[size_swp];omega) (by rw[size_swp];omega)
 have w3:=w2.swp (i:=a+7) (j:=a+5) (by rw[size_swp,size_swp];omega) (by rw[size_swp,size_swp];omega)
 rw[t]
 refine⟨?_,w3,by simp only[size_swp]⟩
 unfold fK
 have q2:=mL (a:=a) (b:=a+13) 2 (by omega) (by omega) (by omega)
 rw[show((2:Nat):Int)=2 from rfl,hL,show a+13 / 4*2=a+6 from by omega] at q2
 rw[q2,gJ (by omega) (by omega),hL,if_pos (by decide),show xW ((13:Nat):Int)=some 16 from by decide+kernel]
 simp only[Option.bind]
 rw[show al (((a+6:Nat):Int) -1)=((a+5:Nat):Int) from by rw[aN (by omega) (by omega)];omega,show IntKind.u64.wrap ((13:Nat):Int)=13 from by decide+kernel,FT]
 rw[di (o:=0) (X:=14069506893) _ (by omega) (by omega) (by omega) (by omega) (by omega) (by omega) (by omega) (by decide+kernel) (by rw[hL];decide+kernel)]
 rw[di (o:=11) (X:=14988908846326605643) _ (by rw[size_swp];omega) (by rw[size_swp];omega) (by rw[size_swp];omega) (by omega) (by omega) (by omega) (by omega) (by decide+kernel) (by rw[hL];decide+kernel)]
 rw[di (o:=5) (X:=3428281591454193221) _ (by rw[size_swp,size_swp];omega) (by rw[size_swp,size_swp];omega) (by rw[size_swp,size_swp];omega) (by omega) (by omega) (by omega) (by omega) (by decide+kernel) (by rw[hL];decide+kernel)]
 rw[nB _ (by omega) (by omega) (by omega)]
theorem Kc{D:List aO}{d:Array Int}(hd:Rw D d){a:Nat}(hb:a+14≤d.size):fK (a:Int) ((a+14:Nat):Int) d.toList D=some ((breakPatterns d a (a+14)).toList,D)∧Rw D (breakPatterns d a (a+14))∧(breakPatterns d a (a+14)).size=d.size:=by
 have hs:=hd.sz
 have hL:a+14 -a=14:=by omega
 have t:breakPatterns d a (a+14)=swp (swp (swp d (a+5) (a+0)) (a+6) (a+9)) (a+7) (a+0):=by
  unfold breakPatterns
  simp only[hL,breakStep]
  rw[if_pos (by decide),show a+14 / 4*2 -1=a+5 from by omega]
  rw[show xorNext (UInt64.ofNat 14)=15151776654 from by decide+kernel,show xorNext 15151776654=16141901775903972233 from by decide+kernel,show xorNext 16141901775903972233=9417236295700912254 from by decide+kernel]
  rw[show(if(15151776654:UInt64).toNat &&& (1 <<< bitsLen 14 -1)≥14 then((15151776654:UInt64).toNat &&& (1 <<< bitsLen 14 -1)) -14 else(15151776654:UInt64).toNat &&& (1 <<< bitsLen 14 -1))=0 from by decide+kernel,show(if(16141901775903972233:UInt64).toNat &&& (1 <<< bitsLen 14 -1)≥14 then((16141901775903972233:UInt64).toNat &&& (1 <<< bitsLen 14 -1)) -14 else(16141901775903972233:UInt64).toNat &&& (1 <<< bitsLen 14 -1))=9 from by decide+kernel,show(if(9417236295700912254:UInt64).toNat &&& (1 <<< bitsLen 14 -1)≥14 then((9417236295700912254:UInt64).toNat &&& (1 <<< bitsLen 14 -1)) -14 else(9417236295700912254:UInt64).toNat &&& (1 <<< bitsLen 14 -1))=0 from by decide+kernel]
 have w1:=hd.swp (i:=a+5) (j:=a+0) (by omega) (by omega)
 have w2:=w1.swp (i:=a+6) (j:=a+9) (by rw[size_swp];omega) (by rw[size_swp];omega)
 have w3:=w2.swp (i:=a+7) (j:=a+0) (by rw[size_swp,size_swp];omega) (by rw[size_swp,size_swp];omega)
 rw[t]
 refine⟨?_,w3,by simp only[size_swp]⟩
 unfold fK
 have q2:=mL (a:=a) (b:=a+14) 2 (by omega) (by omega) (by omega)
 rw[show((2:Nat):Int)=2 from rfl,hL,show a+14 / 4*2=a+6 from by omega] at q2
 rw[q2,gJ (by omega) (by omega),hL,if_pos (by decide),show xW ((14:Nat):Int)=some 16 from by decide+kernel]
 simp only[Option.bind]
 rw[show al (((a+6:Nat):Int) -1)=((a+5:Nat):Int) from by rw[aN (by omega) (by omega)];omega,show IntKind.u64.wrap ((14:Nat):Int)=14 from by decide+kernel,FT]
 rw[di (o:=0) (X:=15151776654) _ (by omega) (by omega) (by omega) (by omega) (by omega) (by omega) (by omega) (by decide+kernel) (by rw[hL];decide+kernel)]
 rw[di (o:=9) (X:=16141901775903972233) _ (by rw[size_swp];omega) (by rw[size_swp];omega) (by rw[size_swp];omega) (by omega) (by omega) (by omega) (by omega) (by decide+kernel) (by rw[hL];decide+kernel)]
 rw[di (o:=0) (X:=9417236295700912254) _ (by rw[size_swp,size_swp];omega) (by rw[size_swp,size_swp];omega) (by rw[size_swp,size_swp];omega) (by omega) (by omega) (by omega) (by omega) (by decide+kernel) (by rw[hL];decide+kernel)]
 rw[nB _ (by omega) (by omega) (by omega)]
theorem Kd{D:List aO}{d:Array Int}(hd:Rw D d){a:Nat}(hb:a+15≤d.size):fK (a:Int) ((a+15:Nat):Int) d.toList D=some ((breakPatterns d a (a+15)).toList,D)∧Rw D (breakPatterns d a (a+15))∧(breakPatterns d a (a+15)).size=d.size:=by
 have hs:=hd.sz
 have hL:a+15 -a=15:=by omega
 have t:breakPatterns d a (a+15)=swp (swp (swp d (a+5) (a+0)) (a+6) (a+8)) (a+7) (a+7):=by
  unfold breakPatterns
  simp only[hL,breakStep]
  rw[if_pos (by decide),show a+15 / 4*2 -1=a+5 from by omega]
  rw[show xorNext (UInt64.ofNat 15)=16234046415 from by decide+kernel,show xorNext 16234046415=17294894740109643720 from by decide+kernel,show xorNext 17294894740109643720=1850481004178652759 from by decide+kernel]
  rw[show(if(16234046415:UInt64).toNat &&& (1 <<< bitsLen 15 -1)≥15 then((16234046415:UInt64).toNat &&& (1 <<< bitsLen 15 -1)) -15 else(16234046415:UInt64).toNat &&& (1 <<< bitsLen 15 -1))=0 from by decide+kernel,show(if(17294894740109643720:UInt64).toNat &&& (1 <<< bitsLen 15 -1)≥15 then((17294894740109643720:UInt64).toNat &&& (1 <<< bitsLen 15 -1)) -15 else(17294894740109643720:UInt64).toNat &&& (1 <<< bitsLen 15 -1))=8 from by decide+kernel,show(if(1850481004178652759:UInt64).toNat &&& (1 <<< bitsLen 15 -1)≥15 then((1850481004178652759:UInt64).toNat &&& (1 <<< bitsLen 15 -1)) -15 else(1850481004178652759:UInt64).toNat &&& (1 <<< bitsLen 15 -1))=7 from by decide+kernel]
 have w1:=hd.swp (i:=a+5) (j:=a+0) (by omega) (by omega)
 have w2:=w1.swp (i:=a+6) (j:=a+8) (by rw[size_swp];omega) (by rw[size_swp];omega)
 have w3:=w2.swp (i:=a+7) (j:=a+7) (by rw[size_swp,size_swp];omega) (by rw[size_swp,size_swp];omega)
 rw[t]
 refine⟨?_,w3,by simp only[size_swp]⟩
 unfold fK
 have q2:=mL (a:=a) (b:=a+15) 2 (by omega) (by omega) (by omega)
 rw[show((2:Nat):Int)=2 from rfl,hL,show a+15 / 4*2=a+6 from by omega] at q2
 rw[q2,gJ (by omega) (by omega),hL,if_pos (by decide),show xW ((15:Nat):Int)=some 16 from by decide+kernel]
 simp only[Option.bind]
 rw[show al (((a+6:Nat):Int) -1)=((a+5:Nat):Int) from by rw[aN (by omega) (by omega)];omega,show IntKind.u64.wrap ((15:Nat):Int)=15 from by decide+kernel,FT]
 rw[di (o:=0) (X:=16234046415) _ (by omega) (by omega) (by omega) (by omega) (by omega) (by omega) (by omega) (by decide+kernel) (by rw[hL];decide+kernel)]
 rw[di (o:=8) (X:=17294894740109643720) _ (by rw[size_swp];omega) (by rw[size_swp];omega) (by rw[size_swp];omega) (by omega) (by omega) (by omega) (by omega) (by decide+kernel) (by rw[hL];decide+kernel)]
 rw[di (o:=7) (X:=1850481004178652759) _ (by rw[size_swp,size_swp];omega) (by rw[size_swp,size_swp];omega) (by rw[size_swp,size_swp];omega) (by omega) (by omega) (by omega) (by omega) (by decide+kernel) (by rw[hL];decide+kernel)]
 rw[nB _ (by omega) (by omega) (by omega)]
theorem Ke{D:List aO}{d:Array Int}(hd:Rw D d){a:Nat}(hb:a+16≤d.size):fK (a:Int) ((a+16:Nat):Int) d.toList D=some ((breakPatterns d a (a+16)).toList,D)∧Rw D (breakPatterns d a (a+16))∧(breakPatterns d a (a+16)).size=d.size:=by
 have hs:=hd.sz
 have hL:a+16 -a=16:=by omega
 have t:breakPatterns d a (a+16)=swp (swp (swp d (a+7) (a+0)) (a+8) (a+8)) (a+9) (a+0):=by
  unfold breakPatterns
  simp only[hL,breakStep]
  rw[if_pos (by decide),show a+16 / 4*2 -1=a+7 from by omega]
  rw[show xorNext (UInt64.ofNat 16)=17316316176 from by decide+kernel,show xorNext 17316316176=1143907631055896 from by decide+kernel,show xorNext 1143907631055896=12964819713102397584 from by decide+kernel]
  rw[show(if(17316316176:UInt64).toNat &&& (1 <<< bitsLen 16 -1)≥16 then((17316316176:UInt64).toNat &&& (1 <<< bitsLen 16 -1)) -16 else(17316316176:UInt64).toNat &&& (1 <<< bitsLen 16 -1))=0 from by decide+kernel,show(if(1143907631055896:UInt64).toNat &&& (1 <<< bitsLen 16 -1)≥16 then((1143907631055896:UInt64).toNat &&& (1 <<< bitsLen 16 -1)) -16 else(1143907631055896:UInt64).toNat &&& (1 <<< bitsLen 16 -1))=8 from by decide+kernel,show(if(12964819713102397584:UInt64).toNat &&& (1 <<< bitsLen 16 -1)≥16 then((12964819713102397584:UInt64).toNat &&& (1 <<< bitsLen 16 -1)) -16 else(12964819713102397584:UInt64).toNat &&& (1 <<< bitsLen 16 -1))=0 from by decide+kernel]
 have w1:=hd.swp (i:=a+7) (j:=a+0) (by omega) (by omega)
 have w2:=w1.swp (i:=a+8) (j:=a+8) (by rw[size_swp];omega) (by rw[size_swp];omega)
 have w3:=w2.swp (i:=a+9) (j:=a+0) (by rw[size_swp,size_swp];omega) (by rw[size_swp,size_swp];omega)
 rw[t]
 refine⟨?_,w3,by simp only[size_swp]⟩
 unfold fK
 have q2:=mL (a:=a) (b:=a+16) 2 (by omega) (by omega) (by omega)
 rw[show((2:Nat):Int)=2 from rfl,hL,show a+16 / 4*2=a+8 from by omega] at q2
 rw[q2,gJ (by omega) (by omega),hL,if_pos (by decide),show xW ((16:Nat):Int)=some 32 from by decide+kernel]
 simp only[Option.bind]
 rw[show al (((a+8:Nat):Int) -1)=((a+7:Nat):Int) from by rw[aN (by omega) (by omega)];omega,show IntKind.u64.wrap ((16:Nat):Int)=16 from by decide+kernel,FT]
 rw[di (o:=0) (X:=17316316176) _ (by omega) (by omega) (by omega) (by omega) (by omega) (by omega) (by omega) (by decide+kernel) (by rw[hL];decide+kernel)]
 rw[di (o:=8) (X:=1143907631055896) _ (by rw[size_swp];omega) (by rw[size_swp];omega) (by rw[size_swp];omega) (by omega) (by omega) (by omega) (by omega) (by decide+kernel) (by rw[hL];decide+kernel)]
 rw[di (o:=0) (X:=12964819713102397584) _ (by rw[size_swp,size_swp];omega) (by rw[size_swp,size_swp];omega) (by rw[size_swp,size_swp];omega) (by omega) (by omega) (by omega) (by omega) (by decide+kernel) (by rw[hL];decide+kernel)]
 rw[nB _ (by omega) (by omega) (by omega)]
theorem RK{D:List aO}{d:Array Int}(hd:Rw D d){a b:Nat}(hb:b≤d.size)(hl:12<b -a):fK (a:Int) (b:Int) d.toList D=some ((breakPatterns d a b).toList,D)∧Rw D (breakPatterns d a b)∧(breakPatterns d a b).size=d.size:=by
 have hs:=hd.sz
 have:b=a+13∨b=a+14∨b=a+15∨b=a+16:=by omega
 rcases this with rfl|rfl|rfl|rfl
 ·exact Kb hd hb
 ·exact Kc hd hb
 ·exact Kd hd hb
 ·exact Ke hd hb
end Go.Proofs.YtmpdeifdnbhdiaaGreatDoor
