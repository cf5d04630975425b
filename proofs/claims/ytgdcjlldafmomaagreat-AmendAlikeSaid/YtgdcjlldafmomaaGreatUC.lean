/- part -/
import Derived.Test.YtgdcjlldafmomaaGreatFA
import Derived.Test.YtgdcjlldafmomaaGreatA5
noncomputable section
namespace Go.Proofs.YtgdcjlldafmomaaGreat
open Go.Ax
theorem Jm(y:YC)(x:fa)(acc:Zk)(h:(acc.length+1)*64≤aE):nf y x y 0 (y.gs 1) acc=some (true,y,0,y.gs 1,acc++[x]):=by
 unfold nf
 rw[eR]
 simp only[bC,dE,jA,cZ,aA h,aH,Nat.beq]
theorem Jn(y:YC)(l:Zk)(k:ib)(known:Int)(hl:l.length*64≤aE):
 ∀(n i:Nat)(acc:Zk),i≤l.length→l.length -i<n→acc.length≤i→
  qo y.l (fun d=>nf y d.1 d.2.1 d.2.2.1 d.2.2.2.1 d.2.2.2.2.1) n (y.l,k,known,l,(l.length:Int),(i:Int),y,0,y.gs 1,acc)=
  some (.brk (y,0,y.gs 1,acc++(l.drop i).filter (dw k known))):=by
 have hm:aE=140737488355328:=rfl
 intro n
 induction n with
 |zero=>intro i acc _ h;omega
 |
  succ n ih=>
  intro i acc hi hn ha
  have key:=fun acc(h:i<l.length)(ha:acc.length≤i+1)=>ih (i+1) acc (by omega) (by omega) ha
  unfold qo at key ⊢
  rw[aM]
  generalize aK _ n=rec at key ⊢
  by_cases h:i<l.length
  ·have hd:l.drop i=l[i]::l.drop (i+1):=jz h
   have hw:aZ ((i:Int)+1)=((i+1:Nat):Int):=bw (by omega)
   have hlt:(i:Int)<(l.length:Int):=by omega
   simp only[cC hlt,bC,dQ i,aA hlt,dg (t:=aP) h,hw]
   by_cases h1:aX bu l[i].1 k=true
   ·by_cases h2:l[i].2.2.2.1≤known
    ·rw[aA h1,cI h2,Jm y _ _ (by omega),aH]
     simp only[kA,cm,bP]
     rw[key _ h (by simp;omega),hd]
     simp only[lE,dw,h1,cC h2,Bool.and_self,bC,jV,List.singleton_append]
    ·rw[aA h1,aC (by simpa using h2),key _ h (by omega),hd]
     simp only[lE,dw,h1,dF h2,Bool.and_false,cm,bP]
   ·rw[aC h1,key _ h (by omega),hd]
    simp only[lE,dw,h1,Bool.false_and,cm,bP]
  ·have:i=l.length:=by omega
   subst this
   simp only[Int.lt_irrefl,decide_false,cm,bP,List.drop_length,List.filter_nil,eG]
def ka(l:Zk)(k:ib)(known:Int):Option Zk:=if l.length*64≤aE then some (l.filter (dw k known)) else none
theorem LC{l:Zk}{k:ib}{known:Int}{r:Zk}(h:ka l k known=some r):BA l k known=some r:=by
 unfold ka at h
 split at h
 ·rename_i hl
  cases h
  unfold BA Bz
  rw[mK (r:=.brk (l.filter (dw k known)))]
  ·rfl
  ·intro y
   have h:=Jn y l k known hl (Int.toNat (l.length:Int)+1) 0 [] (by omega) (by simp) (by simp)
   unfold Bx
   erw[h]
   rw[aI]
   simp only[aH,eR,bC,eS,gO]
 ·cases h
def Jo:aW:=aF G [.tmp 2] 40 [(.func 68 .nil (.cons (.bN (.slice 64 aP)) (.cons (.bN bu) (.cons (.bN (.int .i64)) .nil))))] [] 45 OT [] (.bH (u3 ka))
theorem Jp:hS Jo:=aW.sub Mx fun _ _ h=>LC h
end Go.Proofs.YtgdcjlldafmomaaGreat
