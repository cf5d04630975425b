/- Sorting by the digests: the program's comparison, its insertion sort. -/
import Derived.Test.YtmpdeifdnbhdiaaGreatDoorF1
import Derived.Test.YtmpdeifdnbhdiaaGreatDoorA5
import Derived.Sort.AssemblyPlain
namespace Go.Proofs.YtmpdeifdnbhdiaaGreatDoor
open Go.Abs Go.Sort
def mn:List Int→List Int→Bool
 |x::xs,y::ys=>decide (x<y)||(decide (x=y)&&mn xs ys)
 |_,_=>false
def lt(D:List aO)(x y:Int):Bool:=mn (nth aD D x) (nth aD D y)||(aP aD (nth aD D x) (nth aD D y)&&decide (x<y))
structure Ok(D:List aO):Prop where
 len:D.length≤16
 row:∀d∈D,d.length=32
def Pl(D:List aO)(x:Int):Prop:=0≤x∧x<(D.length:Int)
theorem RJ(x y:Int):KH x y=some (if x<y then-1 else if y<x then 1 else 0):=by
 simp only[KH,BU,Option.bind,decide_true,Bool.not_true,Bool.false_eq_true,if_false,decide_eq_true_eq]
 split
 ·rfl
 ·split<;>rfl
theorem Od(x y:Int):f45 x y=some (if x<y then-1 else if y<x then 1 else 0):=by
 simp only[f45,Kh,Option.bind,decide_true,Bool.not_true,Bool.false_eq_true,if_false,decide_eq_true_eq]
 split
 ·rfl
 ·split<;>rfl
theorem DP(xs ys:List Int)(h:xs.length=ys.length)(hb:xs.length≤1000):∀(n i:Nat),i≤xs.length→xs.length<n+i→
 (∃c,jy xs ys n (i:Int)=some (.ret c)∧decide (c<0)=mn (xs.drop i) (ys.drop i))∨(jy xs ys n (i:Int)=some (.brk ())∧xs.drop i=ys.drop i)
 |0,i,h1,h2=>by omega
 |
  n+1,i,h1,h2=>by
  by_cases hi:i<xs.length
  ·have e1:nth (.int .u8) xs (i:Int)=xs[i]:=cS hi
   have e2:nth (.int .u8) ys (i:Int)=ys[i]'(h▸hi):=cS (h▸hi)
   rw[jy,if_pos (by simp;omega),if_pos (by omega),if_neg (by simp;omega),if_pos (by omega),RJ,bs']
   have hi':i<ys.length:=h▸hi
   have d1:xs.drop i=xs[i]::xs.drop (i+1):=List.drop_eq_getElem_cons hi
   have d2:ys.drop i=ys[i]::ys.drop (i+1):=List.drop_eq_getElem_cons hi'
   rw[e1,e2,d1,d2]
   by_cases q1:xs[i]<ys[i]'(h▸hi)
   ·left
    exact⟨-1,by rw[if_pos q1,if_pos (by decide)],by simp[mn,q1]⟩
   ·by_cases q2:ys[i]'(h▸hi)<xs[i]
    ·left
     exact⟨1,by rw[if_neg q1,if_pos q2,if_pos (by decide)],by
      have:xs[i]≠ys[i]'(h▸hi):=by omega
      simp[mn,q1,this]⟩
    ·have q:xs[i]=ys[i]'(h▸hi):=by omega
     rw[if_neg q1,if_neg q2,if_neg (by decide),aE (by omega)]
     rcases DP xs ys h hb n (i+1) (by omega) (by omega) with⟨c,g1,g2⟩|⟨g1,g2⟩
     ·left
      exact⟨c,g1,by rw[g2];simp[mn,q]⟩
     ·right
      exact⟨g1,by rw[g2,q]⟩
  ·right
   rw[jy,if_neg (by simp;omega)]
   exact⟨rfl,by rw[List.drop_of_length_le (by omega),List.drop_of_length_le (by omega)]⟩
where
 bs' {α β:Type} {x:α} {f:α→Option β}:Option.bind (some x) f=f x:=rfl
theorem v46(xs ys:List Int)(h:xs.length=ys.length)(hb:xs.length≤1000):∃c,f46 xs ys=some c∧decide (c<0)=mn xs ys:=by
 unfold f46
 rcases DP xs ys h hb (xs.length+1) 0 (by omega) (by omega) with⟨c,g1,g2⟩|⟨g1,g2⟩
 ·rw[show((0:Nat):Int)=0 from rfl] at g1
  rw[g1]
  exact⟨c,rfl,g2⟩
 ·rw[show((0:Nat):Int)=0 from rfl] at g1
  rw[g1]
  have e:xs=ys:=g2
  subst e
  refine⟨0,by show(if _ then _ else _)=_;rw[if_neg (by simp)],?_⟩
  have:∀l:List Int,mn l l=false:=by
   intro l;induction l with
   |nil=>rfl
   |cons x l ih=>simp[mn,ih]
  rw[this];rfl
theorem DQ{D:List aO}(h:Ok D){x:Int}(hx:Pl D x):(nth aD D x).length=32:=by
 obtain⟨h0,h1⟩:=hx
 obtain⟨i,rfl⟩:=Int.eq_ofNat_of_zero_le h0
 have hi:i<D.length:=by omega
 rw[show nth aD D (i:Int)=D[i] from cS hi]
 exact h.row _ (List.getElem_mem hi)
theorem Oe{D:List aO}(h:Ok D){x y:Int}(hx:Pl D x)(hy:Pl D y):∃c,f21 D x y=some c∧decide (c<0)=lt D x y:=by
 unfold f21
 rw[if_pos (show 0≤x∧x<(D.length:Int) from hx),if_pos (show 0≤y∧y<(D.length:Int) from hy)]
 have lx:=DQ h hx
 have ly:=DQ h hy
 by_cases e:aP aD (nth aD D x) (nth aD D y)=true
 ·rw[if_pos e,Od]
  refine⟨_,rfl,?_⟩
  have:nth aD D x=nth aD D y:=(sO aD _ _).1 e
  have hr:∀l:List Int,mn l l=false:=by
   intro l;induction l with
   |nil=>rfl
   |cons x l ih=>simp[mn,ih]
  unfold lt
  rw[e,this,hr]
  by_cases q1:x<y
  ·simp[q1]
  ·by_cases q2:y<x<;>simp[q1,q2]
 ·rw[if_neg e]
  have c1:∀l:List Int,l.length=32→aS l 0 32=l:=by
   intro l hl;simp[aS,←hl]
  rw[c1 _ lx,c1 _ ly]
  obtain⟨c,g1,g2⟩:=v46 _ _ (lx.trans ly.symm) (by omega)
  refine⟨c,by rw[show f46 (nth aD D x) (nth aD D y)=some c from g1];rfl,?_⟩
  rw[g2]
  unfold lt
  have:aP aD (nth aD D x) (nth aD D y)=false:=by simpa using e
  rw[this];simp
structure Rw(D:List aO)(d:Array Int):Prop where
 sz:d.size≤16
 pl:∀i,i<d.size→Pl D d[i]!
theorem vA{d:Array Int}{i:Nat}(h:i<d.size):nth (.int .i64) d.toList (i:Int)=d[i]! :=by
 rw[show nth (.int .i64) d.toList (i:Int)=d.toList[i]'(by simpa using h) from cS (by simpa using h)]
 simp[getElem!_pos d i h]
theorem Rw.swp{D:List aO}{d:Array Int}(h:Rw D d){i j:Nat}(hi:i<d.size)(hj:j<d.size):Rw D (swp d i j):=by
 refine⟨by rw[size_swp];exact h.sz,fun k hk=>?_⟩
 rw[size_swp] at hk
 by_cases e1:k=j
 ·subst e1;rw[swp_right d i k hk];exact h.pl i hi
 ·by_cases e2:k=i
  ·subst e2;rw[swp_left d k j hk e1];exact h.pl j hj
  ·rw[swp_other d i j k e2 e1];exact h.pl k hk
theorem dh{d:Array Int}{i j:Nat}(hi:i<d.size)(hj:j<d.size):List.set (List.set d.toList i (nth (.int .i64) d.toList (j:Int))) j (nth (.int .i64) d.toList (i:Int))=(swp d i j).toList:=by
 rw[vA hi,vA hj]
 simp[Go.Sort.swp]
theorem sc{D:List aO}(h:Ok D){d:Array Int}(hd:Rw D d){i j:Nat}(hi:i<d.size)(hj:j<d.size):∃c,f21 D (nth (.int .i64) d.toList (i:Int)) (nth (.int .i64) d.toList (j:Int))=some c∧decide (c<0)=lt D d[i]! d[j]! :=by
 rw[vA hi,vA hj]
 exact Oe h (hd.pl i hi) (hd.pl j hj)
end Go.Proofs.YtmpdeifdnbhdiaaGreatDoor
