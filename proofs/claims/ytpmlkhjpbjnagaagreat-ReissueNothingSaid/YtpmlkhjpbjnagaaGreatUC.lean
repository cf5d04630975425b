/- part -/
import Derived.Test.YtpmlkhjpbjnagaaGreatFC
import Derived.Test.YtpmlkhjpbjnagaaGreatA5
noncomputable section
namespace Go.Proofs.YtpmlkhjpbjnagaaGreat
open Go.Ax
theorem QH(y:YC)(x:fq)(acc:Zn)(h:(acc.length+1)*64≤aG):lK y x y 0 (y.gs 1) acc=some (true,y,0,y.gs 1,acc++[x]):=by
 unfold lK
 rw[fh]
 simp only[bU,d9,lO,dV,aA h,aL,Nat.beq]
theorem QI(y:YC)(l:Zn)(k:cF)(known:Int)(hl:l.length*64≤aG):
 ∀(n i:Nat)(acc:Zn),i≤l.length→l.length -i<n→acc.length≤i→
  pn y.l (fun d=>lK y d.1 d.2.1 d.2.2.1 d.2.2.2.1 d.2.2.2.2.1) n (y.l,k,known,l,(l.length:Int),(i:Int),y,0,y.gs 1,acc)=
  some (.bA (y,0,y.gs 1,acc++(l.drop i).filter (dF k known))):=by
 have hm:aG=140737488355328:=rfl
 intro n
 induction n with
 |zero=>intro i acc _ h;omega
 |
  succ n ih=>
  intro i acc hi hn ha
  have key:=fun acc(h:i<l.length)(ha:acc.length≤i+1)=>ih (i+1) acc (by omega) (by omega) ha
  unfold pn at key ⊢
  rw[aN]
  generalize aK _ n=rec at key ⊢
  by_cases h:i<l.length
  ·have hd:l.drop i=l[i]::l.drop (i+1):=kA h
   have hw:aZ ((i:Int)+1)=((i+1:Nat):Int):=bG (by omega)
   have hlt:(i:Int)<(l.length:Int):=by omega
   simp only[cS hlt,bU,eN i,aA hlt,dg (t:=aW) h,hw]
   by_cases h1:bD aF l[i].1 k=true
   ·by_cases h2:l[i].2.2.2.1≤known
    ·rw[aA h1,cU h2,QH y _ _ (by omega),aL]
     simp only[Bool.not_true,dr,cT]
     rw[key _ h (by simp;omega),hd]
     simp only[pI,dF,h1,cS h2,Bool.and_self,bU,sm,List.singleton_append]
    ·rw[aA h1,aC (by simpa using h2),key _ h (by omega),hd]
     simp only[pI,dF,h1,dz h2,Bool.and_false,dr,cT]
   ·rw[aC h1,key _ h (by omega),hd]
    simp only[pI,dF,h1,Bool.false_and,dr,cT]
  ·have:i=l.length:=by omega
   subst this
   simp only[Int.lt_irrefl,decide_false,dr,cT,List.drop_length,List.filter_nil,dW]
def j8(l:Zn)(k:cF)(known:Int):Option Zn:=if l.length*64≤aG then some (l.filter (dF k known)) else none
theorem Uq{l:Zn}{k:cF}{known:Int}{r:Zn}(h:j8 l k known=some r):EM l k known=some r:=by
 unfold j8 at h
 split at h
 ·rename_i hl
  cases h
  unfold EM AU
  rw[nC (r:=.bA (l.filter (dF k known)))]
  ·rfl
  ·intro y
   have h:=QI y l k known hl (Int.toNat (l.length:Int)+1) 0 [] (by omega) (by simp) (by simp)
   unfold AR
   erw[h]
   rw[aI]
   simp only[aL,fh,bU,gp,oo]
 ·cases h
def QJ:aX:=aE G [.tmp 2] 69 [(.func 107 .nil (.cons (.cb (.slice 64 aW)) (.cons (.cb aF) (.cons (.cb (.int .i64)) .nil))))] [] 45 Y3 [] (.bH (u3 j8))
theorem QK:hS QJ:=aX.sub U4 fun _ _ h=>Uq h
end Go.Proofs.YtpmlkhjpbjnagaaGreat
