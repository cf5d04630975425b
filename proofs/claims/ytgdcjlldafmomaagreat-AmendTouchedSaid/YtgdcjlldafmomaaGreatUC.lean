/- part -/
import Derived.Test.YtgdcjlldafmomaaGreatFA
import Derived.Test.YtgdcjlldafmomaaGreatA5
noncomputable section
namespace Go.Proofs.YtgdcjlldafmomaaGreat
open Go.Ax
theorem Jh(y:YC)(x:eQ)(acc:Zk)(h:(acc.length+1)*64≤aE):mO y x y 0 (y.gs 1) acc=some (true,y,0,y.gs 1,acc++[x]):=by
 unfold mO
 rw[eP]
 simp only[bH,dH,jK,dN,aA h,aJ,Nat.beq]
theorem Ji(y:YC)(l:Zk)(k:gX)(known:Int)(hl:l.length*64≤aE):
 ∀(n i:Nat)(acc:Zk),i≤l.length→l.length -i<n→acc.length≤i→
  qp y.l (fun d=>mO y d.1 d.2.1 d.2.2.1 d.2.2.2.1 d.2.2.2.2.1) n (y.l,k,known,l,(l.length:Int),(i:Int),y,0,y.gs 1,acc)=
  some (.brk (y,0,y.gs 1,acc++(l.drop i).filter (dg k known))):=by
 have hm:aE=140737488355328:=rfl
 intro n
 induction n with
 |zero=>intro i acc _ h;omega
 |
  succ n ih=>
  intro i acc hi hn ha
  have key:=fun acc(h:i<l.length)(ha:acc.length≤i+1)=>ih (i+1) acc (by omega) (by omega) ha
  unfold qp at key ⊢
  rw[aM]
  generalize aK _ n=rec at key ⊢
  by_cases h:i<l.length
  ·have hd:l.drop i=l[i]::l.drop (i+1):=jj h
   have hw:aZ ((i:Int)+1)=((i+1:Nat):Int):=bu (by omega)
   have hlt:(i:Int)<(l.length:Int):=by omega
   simp only[cu hlt,bH,ei i,aA hlt,cT (t:=aO) h,hw]
   by_cases h1:aY bx l[i].1 k=true
   ·by_cases h2:l[i].2.2.2.1≤known
    ·rw[aA h1,cH h2,Jh y _ _ (by omega),aJ]
     simp only[oq,cJ,bY]
     rw[key _ h (by simp;omega),hd]
     simp only[oi,dg,h1,cu h2,Bool.and_self,bH,List.append_assoc,List.singleton_append]
    ·rw[aA h1,aC (by simpa using h2),key _ h (by omega),hd]
     simp only[oi,dg,h1,dz h2,Bool.and_false,cJ,bY]
   ·rw[aC h1,key _ h (by omega),hd]
    simp only[oi,dg,h1,Bool.false_and,cJ,bY]
  ·have:i=l.length:=by omega
   subst this
   simp only[Int.lt_irrefl,decide_false,cJ,bY,List.drop_length,List.filter_nil,gI]
def jV(l:Zk)(k:gX)(known:Int):Option Zk:=if l.length*64≤aE then some (l.filter (dg k known)) else none
theorem Mn{l:Zk}{k:gX}{known:Int}{r:Zk}(h:jV l k known=some r):B4 l k known=some r:=by
 unfold jV at h
 split at h
 ·rename_i hl
  cases h
  unfold B4 B3
  rw[mF (r:=.brk (l.filter (dg k known)))]
  ·rfl
  ·intro y
   have h:=Ji y l k known hl (Int.toNat (l.length:Int)+1) 0 [] (by omega) (by simp) (by simp)
   unfold B1
   erw[h]
   rw[aH]
   simp only[aJ,eP,bH,gv,mY]
 ·cases h
def Jj:aW:=aF G [.tmp 2] 40 [(.func 68 .nil (.cons (.bL (.slice 64 aO)) (.cons (.bL bx) (.cons (.bL (.int .i64)) .nil))))] [] 45 PT [] (.bE (u3 jV))
theorem Jk:hS Jj:=aW.sub No fun _ _ h=>Mn h
end Go.Proofs.YtgdcjlldafmomaaGreat
