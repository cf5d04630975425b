/- part -/
import Derived.Test.YtpmlkhjpbjnagaaGreatF5
import Derived.Test.YtpmlkhjpbjnagaaGreatA5
noncomputable section
namespace Go.Proofs.YtpmlkhjpbjnagaaGreat
open Go.Ax
def La(a b:Int):Int:=if a<b then-1 else if b<a then 1 else 0
theorem TO(a b:Int):f30 a b=some (La a b):=by
 grind [f30,f57,La]
def TP(a b:gF):Int:=if La a.2.2.2.1 b.2.2.2.1=0 then La a.2.2.2.2.1 b.2.2.2.2.1 else La a.2.2.2.1 b.2.2.2.1
theorem TQ(x y:Int):f29 [x,y]=some (if x=0 then y else x):=by
 by_cases hx:x=0
 ·subst hx
  by_cases hy:y=0
  ·subst hy;rfl
  ·have hw:bq 1=1:=rfl
   simp only[f29,oQ,gI,List.length_nil,jy,aN]
   simp[hw,nth,hy,aI,bU]
 ·simp only[f29,oQ,gI,List.length_nil,jy,aN]
  simp[nth,hx,aI,bU]
theorem TR(a b:gF):f71 a b=some (TP a b):=by
 simp only[f71,TO,aM,TQ,TP]
def mL(day:Int)(s:gF×Bool)(f:gF):gF×Bool:=
 if f.2.2.1.1≤day∧day<f.2.2.1.2.1∧(s.2=false∨TP s.1 f≤0) then(f,true) else s
def lf(k:cM)(known:Int)(f:gF):Bool:=bl aK f.1 k&&decide (f.2.2.2.1≤known)
def lg(k:cM)(day known:Int)(l:Zz)(s:gF×Bool):gF×Bool:=(l.filter (lf k known)).foldl (mL day) s
def zF:gF:=(((0:Int),((0:Int),((0:Int),()))),((0:Int),(((0:Int),((0:Int),())),((0:Int),((0:Int),())))))
def tX(l:Zz)(k:cM)(day known:Int):Int×Bool:=
 let s:=lg k day known l (zF,false)
 if s.2=true∧0≤s.1.2.1 then(s.1.2.1,true) else(0,false)
theorem Xi(y:YC)(f:gF)(day:Int)(s:gF×Bool):
 uj y f y 0 (y.gs 1) day (y.gs 2) s.1 (y.gs 3) s.2=some (true,y,0,y.gs 1,day,y.gs 2,(mL day s f).1,y.gs 3,(mL day s f).2):=by
 unfold uj
 rw[gk]
 simp only[cj,TR,aM]
 grind [mL,Nat.beq]
theorem Xj(y:YC)(l:Zz)(k:cM)(day known:Int)(x:Zz)(hl:l.length≤aH):
 ∀(n i:Nat)(s:gF×Bool),i≤l.length→l.length -i<n→
  oR y.l (fun d=>uj y d.1 d.2.1 d.2.2.1 d.2.2.2.1 d.2.2.2.2.1 d.2.2.2.2.2.1 d.2.2.2.2.2.2.1 d.2.2.2.2.2.2.2.1 d.2.2.2.2.2.2.2.2.1) n
   (y.l,l,(l.length:Int),(i:Int),y,0,y.gs 1,day,y.gs 2,s.1,y.gs 3,s.2,x,k,known)=
  some (.brk (y,0,y.gs 1,day,y.gs 2,(lg k day known (l.drop i) s).1,y.gs 3,(lg k day known (l.drop i) s).2,x,k,known)):=by
 intro n
 induction n with
 |zero=>grind
 |
  succ n ih=>
  intro i s hi hn
  have key:=fun s(h:i<l.length)=>ih (i+1) s (by omega) (by omega)
  unfold oR at key ⊢
  rw[aN]
  generalize aL _ n=rec at key ⊢
  by_cases h:i<l.length
  ·have hd:l.drop i=l[i]::l.drop (i+1):=lO h
   have hw:bq ((i:Int)+1)=((i+1:Nat):Int):=bh (by have:aH=140737488355328:=rfl;omega)
   have hlt:(i:Int)<(l.length:Int):=by omega
   simp only[cD hlt,cj,dZ i,aA hlt,cJ (t:=bH) h,hw]
   have key:=fun s=>key s h
   by_cases h1:bl aK l[i].1 k=true
   ·by_cases h2:l[i].2.2.2.1≤known
    ·rw[aA h1,cz h2,Xi,aM]
     simp only[Bool.not_true,eJ,dz]
     rw[key,hd]
     simp only[lg,vH,lf,h1,cD h2,Bool.and_self,cj,List.foldl_cons]
    ·rw[aA h1,aC (by grind),key,hd]
     simp only[lg,vH,lf,h1,dp h2,Bool.and_false,eJ,dz]
   ·rw[aC h1,key,hd]
    simp only[lg,vH,lf,h1,Bool.false_and,eJ,dz]
  ·have:i=l.length:=by omega
   subst this
   simp only[Int.lt_irrefl,decide_false,eJ,dz,List.drop_length]
   rfl
def yF(l:Zz)(k:cM)(day known:Int):Option (Int×Bool):=if l.length≤aH then some (tX l k day known) else none
theorem OU(l:Zz)(k:cM)(day known:Int)(hl:l.length≤aH):f121 l k day known=some (tX l k day known):=by
 unfold f121
 simp only[Eg,aM]
 rw[qC (r:=.brk (lg k day known l (zF,false)))]
 ·grind [aG,tX]
 ·intro y
  have h:=Xj y l k day known l hl (Int.toNat (l.length:Int)+1) 0 (zF,false) (by omega) (by simp)
  simp_all[zQ,zF,aG,gk]
def Xk:aZ:=aF G [.tmp 8,.tmp 9] 121 [(.val (.slice 64 bH)),(.val aK),vI,vI] [] 90 WN [] (.br (u4 yF))
theorem Xl:hS Xk:=aZ.sub abX fun d r h=>by
 have h:yF d.1 d.2.1 d.2.2.1 d.2.2.2.1=some r:=h
 exact(by grind[yF,OU]:f121 d.1 d.2.1 d.2.2.1 d.2.2.2.1=some r)
end Go.Proofs.YtpmlkhjpbjnagaaGreat
