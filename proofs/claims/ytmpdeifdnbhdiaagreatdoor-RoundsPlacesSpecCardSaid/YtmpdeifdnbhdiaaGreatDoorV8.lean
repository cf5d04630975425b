/- Sorting by the digests: the order, the whole sort. -/
import Derived.Test.YtmpdeifdnbhdiaaGreatDoorV7
namespace Go.Proofs.YtmpdeifdnbhdiaaGreatDoor
open Go.Abs Go.Sort
theorem rM:∀l:List Int,mn l l=false
 |[]=>rfl
 |x::l=>by simp[mn,rM l]
theorem tL:∀{xs ys zs:List Int},mn xs ys=true→mn ys zs=true→mn xs zs=true
 |[],_,_,h,_=>by simp[mn] at h
 |_::_,[],_,h,_=>by simp[mn] at h
 |_::_,_::_,[],_,h=>by simp[mn] at h
 |
  x::xs,y::ys,z::zs,h1,h2=>by
  simp only[mn,Bool.or_eq_true,Bool.and_eq_true,decide_eq_true_eq] at h1 h2 ⊢
  rcases h1 with h1|⟨h1,k1⟩<;>rcases h2 with h2|⟨h2,k2⟩
  ·left;omega
  ·left;omega
  ·left;omega
  ·right;exact⟨by omega,tL k1 k2⟩
theorem Al:∀{xs ys:List Int},xs.length=ys.length→mn xs ys=false→mn ys xs=false→xs=ys
 |[],[],_,_,_=>rfl
 |[],_::_,h,_,_=>by simp at h
 |_::_,[],h,_,_=>by simp at h
 |
  x::xs,y::ys,h,h1,h2=>by
  simp only[mn,Bool.or_eq_false_iff,Bool.and_eq_false_iff,decide_eq_false_iff_not] at h1 h2
  have e:x=y:=by omega
  subst e
  rw[Al (by simpa using h) (h1.2.resolve_left (by simp)) (h2.2.resolve_left (by simp))]
section
variable{D:List aO} (hD:Ok D)
include hD in
theorem Am(x:Int):(nth aD D x).length=32:=by
 by_cases h:x.toNat<D.length
 ·have e:nth aD D x=D[x.toNat]:=by unfold nth;rw[List.getD_eq_getElem?_getD,List.getElem?_eq_getElem h];rfl
  rw[e];exact hD.row _ (List.getElem_mem h)
 ·have e:nth aD D x=Ty.aX aD:=by unfold nth;rw[List.getD_eq_getElem?_getD,List.getElem?_eq_none (by omega)];rfl
  rw[e];decide
theorem lt_iff(x y:Int):lt D x y=true↔mn (nth aD D x) (nth aD D y)=true∨((nth aD D x)=(nth aD D y)∧x<y):=by
 unfold lt
 simp only[Bool.or_eq_true,Bool.and_eq_true,decide_eq_true_eq,sO aD]
include hD in
theorem DR(x y:Int)(h1:lt D x y=false)(h2:lt D y x=false):x=y:=by
 have g1:¬(lt D x y=true):=by simp[h1]
 have g2:¬(lt D y x=true):=by simp[h2]
 rw[lt_iff,not_or] at g1 g2
 have e:=Al ((Am hD x).trans (Am hD y).symm) (by simpa using g1.1) (by simpa using g2.1)
 have a1:¬x<y:=fun q=>g1.2 ⟨e,q⟩
 have a2:¬y<x:=fun q=>g2.2 ⟨e.symm,q⟩
 omega
theorem DS(x y z:Int)(h1:lt D x y=true)(h2:lt D y z=true):lt D x z=true:=by
 rw[lt_iff] at h1 h2 ⊢
 rcases h1 with h1|⟨h1,k1⟩<;>rcases h2 with h2|⟨h2,k2⟩
 ·exact Or.inl (tL h1 h2)
 ·exact Or.inl (h2▸h1)
 ·exact Or.inl (h1▸h2)
 ·exact Or.inr ⟨h1.trans h2,by omega⟩
include hD in
theorem swo:SWO (lt D):=by
 refine⟨fun x=>?_,DS,fun x y z h1 h2=>?_⟩
 ·cases h:lt D x x with
  |false=>rfl
  |
   true=>
   rw[lt_iff,rM] at h
   rcases h with h|⟨_,h⟩
   ·cases h
   ·omega
 ·cases h:lt D x z with
  |false=>rfl
  |
   true=>
   cases h3:lt D y x with
   |true=>rw[DS _ _ _ h3 h] at h2;cases h2
   |
    false=>
    have:=DR hD x y h1 h3
    subst this
    rw[h] at h2;cases h2
include hD
theorem tM{d:Array Int}(hd:Rw D d){n a b lim:Nat}{wb wp:Bool}(hab:a≤b)(hb:b≤d.size)(h:b -a≤12):cU (n+1) (a:Int) (b:Int) (lim:Int) wb wp d.toList D=some (.ret ((pdq (lt D) d a b lim wb wp).toList,D)):=by
 have hs:=hd.sz
 obtain⟨i1,i2,i3⟩:=PV hD a b d (by omega) hb hd
 have e:pdq (lt D) d a b lim wb wp=insertionSort (lt D) d a b:=by rw[pdq,if_pos h]
 rw[cU,gJ hab (by omega),if_pos (by simp;omega),i1,e]
 rfl
omit hD in
theorem Of{d:Array Int}(hd:Rw D d){a b lim:Nat}(wb:Bool)(hb:b≤d.size)(h:12<b -a)(hl:b -a≤lim+12)(hl2:lim≤100):∃(lim1:Nat)(d1:Array Int),(if(!wb)=true then lim -1 else lim)=lim1∧(if(!wb)=true then breakPatterns d a b else d)=d1∧
 (if(!wb)=true then(Option.bind (fK (a:Int) (b:Int) d.toList D) fun y5=>some (al ((lim:Int) -(1:Int)),y5.1,y5.2)) else some ((lim:Int),d.toList,D))=some ((lim1:Int),d1.toList,D)∧Rw D d1∧d1.size=d.size∧b -a≤lim1+13∧lim1≤100:=by
 cases wb with
 |true=>exact⟨lim,d,rfl,rfl,rfl,hd,rfl,by omega,hl2⟩
 |
  false=>
  obtain⟨g1,g2,g3⟩:=RK hd hb (by omega)
  refine⟨lim -1,breakPatterns d a b,rfl,rfl,?_,g2,g3,by omega,by omega⟩
  rw[if_pos (by rfl),g1,iD (by omega) (by omega)]
  rfl
omit hD in
theorem RL{d1:Array Int}(R1:Rw D d1){a b:Nat}(hb:b≤d1.size)(c:Nat×Hint)(p1:a≤c.1)(p2:c.1<b):∃(pv:Nat)(hint:Hint)(d2:Array Int),(if c.2= .decreasing then b -1 -(c.1 -a) else c.1)=pv∧(if c.2= .decreasing then Hint.increasing else c.2)=hint∧(if c.2= .decreasing then reverseRange d1 a b else d1)=d2∧
 (if decide (lz c.2=(2:Int))=true then(Option.bind (nI (a:Int) (b:Int) d1.toList D) fun y11=>some (al (al ((b:Int) -(1:Int)) -al ((c.1:Int) -(a:Int))),(1:Int),y11.1,y11.2)) else some ((c.1:Int),lz c.2,d1.toList,D))=some ((pv:Int),lz hint,d2.toList,D)∧Rw D d2∧d2.size=d1.size∧a≤pv∧pv<b:=by
 have hs:=R1.sz
 by_cases hc:c.2= .decreasing
 ·obtain⟨g1,g2,g3⟩:=QV (D:=D) a b d1 (by omega) hb R1
  refine⟨b -1 -(c.1 -a),.increasing,reverseRange d1 a b,if_pos hc,if_pos hc,if_pos hc,?_,g2,g3,by omega,by omega⟩
  rw[if_pos (by simp[hc,lz]),g1]
  simp only[Option.bind]
  rw[iD (j:=b) (by omega) (by omega),gJ p1 (by omega),gJ (a:=c.1 -a) (b:=b -1) (by omega) (by omega)]
  rfl
 ·refine⟨c.1,c.2,d1,if_neg hc,if_neg hc,if_neg hc,?_,R1,rfl,p1,p2⟩
  rw[if_neg (by rw[decide_eq_true_eq,B8];exact hc)]
theorem RN{d2:Array Int}(R2:Rw D d2){a b:Nat}(hab:a<b)(hb:b≤d2.size)(wb wp:Bool)(hint:Hint):∃fl:Bool,(if(wb&&wp&&decide (hint= .increasing))=true then partialInsertionSort (lt D) d2 a b else(d2,false))=(d2,fl)∧
 (Option.bind (if wb=true then(if wp=true then some (decide (lz hint=(1:Int))) else some false) else some false) fun(o15:Bool)=>if o15=true then(Option.bind (nK (a:Int) (b:Int) d2.toList D) fun y18=>if y18.1=true then some (iQ.ret (y18.2.1,y18.2.2)) else some (iQ.brk (y18.2.1,y18.2.2))) else some (iQ.brk (d2.toList,D)))=some (if fl=true then iQ.ret (d2.toList,D) else iQ.brk (d2.toList,D)):=by
 cases wb with
 |false=>exact⟨false,rfl,rfl⟩
 |
  true=>
  cases wp with
  |false=>exact⟨false,rfl,rfl⟩
  |
   true=>
   by_cases hi:hint= .increasing
   ·obtain⟨g1,g2⟩:=QL hD R2 hab hb
    refine⟨(partialInsertionSort (lt D) d2 a b).2,?_,?_⟩
    ·rw[if_pos (by simp[hi])]
     exact Prod.ext g2 rfl
    ·rw[if_pos rfl,if_pos rfl,decide_eq_true ((vZ hint).2 hi)]
     simp only[Option.bind,if_true]
     rw[g1,g2]
     simp only
     cases(partialInsertionSort (lt D) d2 a b).2<;>rfl
   ·refine⟨false,by rw[if_neg (by simp[hi])],?_⟩
    rw[if_pos rfl,if_pos rfl,decide_eq_false (fun q=>hi ((vZ hint).1 q))]
    rfl
theorem RQ{d2:Array Int}(R2:Rw D d2){a pv:Nat}(ha':a≤d2.size)(hp:pv<d2.size):(if decide ((0:Int)<(a:Int))=true then(if 0≤al ((a:Int) -(1:Int))∧al ((a:Int) -(1:Int))<(List.length d2.toList:Int) then(if 0≤(pv:Int)∧(pv:Int)<(List.length d2.toList:Int) then(Option.bind (f21 D (nth (.int .i64) d2.toList (al ((a:Int) -(1:Int)))) (nth (.int .i64) d2.toList (pv:Int))) fun y28=>some (!(decide (y28<(0:Int))))) else none) else none) else some false)=some (decide (a>0)&& !lt D d2[a -1]! d2[pv]!):=by
 have hs:=R2.sz
 by_cases ha:0<a
 ·obtain⟨c',e1,e2⟩:=sc hD R2 (i:=a -1) (j:=pv) (by omega) hp
  rw[if_pos (by simp;omega),iD ha (by omega),eR,if_pos (by omega),if_pos (by omega),e1]
  simp only[Option.bind]
  rw[e2];simp[ha]
 ·rw[if_neg (by simp;omega)];simp[ha]
end
end Go.Proofs.YtmpdeifdnbhdiaaGreatDoor
