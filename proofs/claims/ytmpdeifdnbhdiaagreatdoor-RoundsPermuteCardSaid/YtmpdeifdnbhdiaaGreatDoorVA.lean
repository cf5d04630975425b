/- The places: a permutation of all numbers below the number of orders. -/
import Derived.Test.YtmpdeifdnbhdiaaGreatDoorV9
import Derived.Test.YtmpdeifdnbhdiaaGreatDoorL0
import Derived.Test.YtmpdeifdnbhdiaaGreatDoorF4
namespace Go.Proofs.YtmpdeifdnbhdiaaGreatDoor
open Go.Abs Go.Sort
theorem uh(y:aY):∀(n:Nat)(i:Int)(s r:bz),fw y n i s=some r→List.length r=List.length s
 |0,i,s,r,h=>by simp[fw] at h
 |
  n+1,i,s,r,h=>by
  rw[fw] at h
  split at h
  ·split at h
   ·split at h
    ·split at h
     ·have:=uh y n _ _ r h
      rw[this];exact List.length_set ..
     ·cases h
    ·cases h
   ·cases h
  ·cases h;rfl
theorem Gj{a:List (List Int)}{r:bz}(h:f42 a=some r):List.length r=32:=by
 unfold f42 at h
 obtain⟨y,_,h⟩:=bind_some h
 obtain⟨o,h1,h⟩:=bind_some h
 cases h
 rw[uh _ _ _ _ _ h1];rfl
theorem Ih(t:List UInt8)(b:List Int)(ht:(bytesOf t).length≤1000)(hb:b.length≤1000):∃r,f19 t b=some r∧List.length r=32:=by
 obtain⟨y1,h1⟩:=t42 [bytesOf t] (by simp) (by simpa using ht)
 obtain⟨y3,h3⟩:=t42 [ba y1 0 32,b] (by simp) (by
  intro x hx
  simp only[List.mem_cons,List.not_mem_nil,or_false] at hx
  rcases hx with rfl|rfl
  ·rw[jY];omega
  ·exact hb)
 refine⟨y3,?_,Gj h3⟩
 unfold f19
 rw[h1,lD,h3,lD]
def sq(n:Nat):List Int:=(List.range n).map Int.ofNat
theorem Gk(a0:bz)(n:Nat)(hn:n≤16):∀(k fuel i:Nat)(D:List bz),n -i=k→i≤n→k<fuel→D.length=i→(∀d∈D,List.length d=32)→
 ∃D':List bz,lH a0 (n:Int) fuel (i:Int) (sq i) D=some (sq n,D')∧D'.length=n∧∀d∈D',List.length d=32:=by
 intro k
 induction k with
 |
  zero=>
  intro fuel i D hk hi hf hl hd
  cases fuel with
  |zero=>omega
  |
   succ fuel=>
   have:i=n:=by omega
   subst this
   exact⟨D,by rw[lH,if_neg (by simp)],hl,hd⟩
 |
  succ k ih=>
  intro fuel i D hk hi hf hl hd
  cases fuel with
  |zero=>omega
  |
   succ fuel=>
   have ht:(List.take (32 -0) (List.drop 0 a0)).length≤32:=by simp only[List.length_take];omega
   have hu:(sq i).length=i:=by simp[sq]
   obtain⟨r,h1,h2⟩:=Ih [112,108,97,99,101] ((List.take (32 -0) (List.drop 0 a0))++[IntKind.u8.wrap (Int.fdiv (i:Int) (2^(min (Int.toNat (24:Int)) 64))),IntKind.u8.wrap (Int.fdiv (i:Int) (2^(min (Int.toNat (16:Int)) 64))),IntKind.u8.wrap (Int.fdiv (i:Int) (2^(min (Int.toNat (8:Int)) 64))),IntKind.u8.wrap (i:Int)]) (by decide) (by rw[List.length_append];simp only[List.length_cons,List.length_nil];omega)
   obtain⟨D',g1,g2,g3⟩:=ih fuel (i+1) (D++[r]) (by omega) (by omega) (by omega) (by simp[hl]) (by
    intro d hd'
    rcases List.mem_append.1 hd' with q|q
    ·exact hd d q
    ·simp only[List.mem_singleton] at q;subst q;exact h2)
   refine⟨D',?_,g2,g3⟩
   rw[lH,if_pos (by simpa using by omega),if_pos (by simp only[List.length_nil,aO];omega),if_pos (by simp only[List.length_cons,List.length_nil,aO];omega),h1,lD]
   rw[if_pos (by simp only[List.length_cons,List.length_nil,aO];omega),if_pos (by simp only[List.length_cons,List.length_nil,aO];omega),aK (by omega)]
   have hup:sq i++[(i:Int)]=sq (i+1):=by simp[sq,List.range_succ]
   rw[hup]
   exact g1
theorem v6(a0:bz)(n:Nat)(h1:1≤n)(hn:n≤16):∃(D:List bz)(d:Array Int),Ok D∧D.length=n∧d.toList=sq n∧Rw D d∧f6 a0 (n:Int)=some ((Go.Sort.sort (lt D) d).toList,0):=by
 obtain⟨D,g1,g2,g3⟩:=Gk a0 n hn n (n+1) 0 [] (by omega) (by omega) (by omega) rfl (by intro d hd;cases hd)
 have hok:Ok D:=⟨by omega,g3⟩
 have hrw:Rw D (sq n).toArray:=by
  refine⟨by simp[sq];exact hn,fun i hi=>?_⟩
  have hi':i<n:=by simpa[sq] using hi
  have:(sq n).toArray[i]! =(i:Int):=by
   rw[getElem!_pos _ i hi];simp[sq]
  rw[this]
  exact⟨by omega,by omega⟩
 refine⟨D,(sq n).toArray,hok,g2,rfl,hrw,?_⟩
 unfold f6
 rw[if_neg (by simpa using by omega),lD]
 rw[if_neg (by simpa using by omega),lD]
 dsimp only
 rw[show Int.toNat (n:Int)+1=n+1 from rfl]
 rw[show lH a0 (n:Int) (n+1) 0 [] []=_ from g1,lD]
 dsimp only
 rw[show nE (sq n) D=_ from v20 hok hrw,lD]
 rfl
theorem Cx(a0:bz)(n:Nat)(h1:1≤n)(hn:n≤16):∃l:List Int,f6 a0 (n:Int)=some (l,0)∧l.Perm (sq n):=by
 obtain⟨D,d,hok,_,hl,hrw,e⟩:=v6 a0 n h1 hn
 refine⟨_,e,?_⟩
 have:=(sort_sorts (lt D) (swo hok) d).1.2.2
 have hsz:(Go.Sort.sort (lt D) d).size=d.size:=(sort_sorts (lt D) (swo hok) d).1.1
 rw[←hl]
 have e1:(d.extract 0 d.size).toList=d.toList:=by simp
 have e2:((Go.Sort.sort (lt D) d).extract 0 d.size).toList=(Go.Sort.sort (lt D) d).toList:=by rw[←hsz];simp
 rw[e1,e2] at this
 exact this
end Go.Proofs.YtmpdeifdnbhdiaaGreatDoor
