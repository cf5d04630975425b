/- part -/
import Derived.Test.YtkhfnbfpgcjllaaGreatDoorFO
import Derived.Test.YtkhfnbfpgcjllaaGreatDoorA5
noncomputable section
namespace Go.Proofs.YtkhfnbfpgcjllaaGreatDoor
open Go.Ax
theorem qx(y:YC)(x:iF)(acc:Zj)(h:(acc.length+1)*64≤aF):fD y x y 0 (y.gs 1) acc=some (true,y,0,y.gs 1,acc++[x]):=by
 unfold fD
 rw[gn]
 simp only[cu,db,fZ,d9,aA h,aD,Nat.beq]
theorem qy(y:YC)(l:Zj)(k:iw)(known:Int)(hl:l.length*64≤aF):
 ∀(n i:Nat)(acc:Zj),i≤l.length→l.length -i<n→acc.length≤i→
  iT y.l (fun d=>fD y d.1 d.2.1 d.2.2.1 d.2.2.2.1 d.2.2.2.2.1) n (y.l,k,known,l,(l.length:Int),(i:Int),y,0,y.gs 1,acc)=
  some (.aX (y,0,y.gs 1,acc++(l.drop i).filter (cN k known))):=by
 have hm:aF=140737488355328:=rfl
 intro n
 induction n with
 |zero=>intro i acc _ h;omega
 |
  succ n ih=>
  intro i acc hi hn ha
  have key:=fun acc(h:i<l.length)(ha:acc.length≤i+1)=>ih (i+1) acc (by omega) (by omega) ha
  unfold iT at key ⊢
  rw[aK]
  generalize aL _ n=rec at key ⊢
  by_cases h:i<l.length
  ·have hd:l.drop i=l[i]::l.drop (i+1):=iu h
   have hw:aV ((i:Int)+1)=((i+1:Nat):Int):=bS (by omega)
   have hlt:(i:Int)<(l.length:Int):=by omega
   simp only[bQ hlt,cu,dH i,aA hlt,cH (t:=aN) h,hw]
   by_cases h1:bN aQ l[i].1 k=true
   ·by_cases h2:l[i].2.2.2.1≤known
    ·rw[aA h1,bZ h2,qx y _ _ (by omega),aD]
     simp only[tj,dv,dc]
     rw[key _ h (by simp;omega),hd]
     simp only[js,cN,h1,bQ h2,Bool.and_self,cu,jr,List.singleton_append]
    ·rw[aA h1,aB (by simpa using h2),key _ h (by omega),hd]
     simp only[js,cN,h1,cD h2,Bool.and_false,dv,dc]
   ·rw[aB h1,key _ h (by omega),hd]
    simp only[js,cN,h1,Bool.false_and,dv,dc]
  ·have:i=l.length:=by omega
   subst this
   simp only[Int.lt_irrefl,decide_false,dv,dc,List.drop_length,List.filter_nil,cW]
theorem ui{l:Zj}{k:iw}{known:Int}{r:Zj}(h:ia l k known=some r):pd l k known=some r:=by
 unfold ia at h
 split at h
 ·rename_i hl
  cases h
  unfold pd sB
  rw[oh (r:=.aX (l.filter (cN k known)))]
  ·rfl
  ·intro y
   have h:=qy y l k known hl (Int.toNat (l.length:Int)+1) 0 [] (by omega) (by simp) (by simp)
   unfold sA
   erw[h]
   rw[aC]
   simp only[aD,gn,cu,fJ,jP]
 ·cases h
theorem yz:hS yF:=bG.sub Cr fun _ _ h=>ui h
end Go.Proofs.YtkhfnbfpgcjllaaGreatDoor
