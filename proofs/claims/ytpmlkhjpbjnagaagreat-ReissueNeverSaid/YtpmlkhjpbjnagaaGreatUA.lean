/- part -/
import Derived.Test.YtpmlkhjpbjnagaaGreatF5
import Derived.Test.YtpmlkhjpbjnagaaGreatA5
noncomputable section
namespace Go.Proofs.YtpmlkhjpbjnagaaGreat
open Go.Ax
def LC(a b:Int):Int:=if a<b then-1 else if b<a then 1 else 0
theorem Ui(a b:Int):f30 a b=some (LC a b):=by
 grind [f30,f57,LC]
def Uj(a b:gM):Int:=if LC a.2.2.2.1 b.2.2.2.1=0 then LC a.2.2.2.2.1 b.2.2.2.2.1 else LC a.2.2.2.1 b.2.2.2.1
theorem Uk(x y:Int):f29 [x,y]=some (if x=0 then y else x):=by
 by_cases hx:x=0
 ·subst hx
  by_cases hy:y=0
  ·subst hy;rfl
  ·have hw:bq 1=1:=rfl
   simp only[f29,pn,gP,List.length_nil,jF,aN]
   simp[hw,nth,hy,aI,bU]
 ·simp only[f29,pn,gP,List.length_nil,jF,aN]
  simp[nth,hx,aI,bU]
theorem Ul(a b:gM):f71 a b=some (Uj a b):=by
 simp only[f71,Ui,aM,Uk,Uj]
def na(day:Int)(s:gM×Bool)(f:gM):gM×Bool:=
 if f.2.2.1.1≤day∧day<f.2.2.1.2.1∧(s.2=false∨Uj s.1 f≤0) then(f,true) else s
def lA(k:cN)(known:Int)(f:gM):Bool:=bl aK f.1 k&&decide (f.2.2.2.1≤known)
def lB(k:cN)(day known:Int)(l:Zz)(s:gM×Bool):gM×Bool:=(l.filter (lA k known)).foldl (na day) s
def zF:gM:=(((0:Int),((0:Int),((0:Int),()))),((0:Int),(((0:Int),((0:Int),())),((0:Int),((0:Int),())))))
def uw(l:Zz)(k:cN)(day known:Int):Int×Bool:=
 let s:=lB k day known l (zF,false)
 if s.2=true∧0≤s.1.2.1 then(s.1.2.1,true) else(0,false)
theorem XI(y:YC)(f:gM)(day:Int)(s:gM×Bool):
 uI y f y 0 (y.gs 1) day (y.gs 2) s.1 (y.gs 3) s.2=some (true,y,0,y.gs 1,day,y.gs 2,(na day s f).1,y.gs 3,(na day s f).2):=by
 unfold uI
 rw[gv]
 simp only[cj,Ul,aM]
 grind [na,Nat.beq]
theorem XJ(y:YC)(l:Zz)(k:cN)(day known:Int)(x:Zz)(hl:l.length≤aH):
 ∀(n i:Nat)(s:gM×Bool),i≤l.length→l.length -i<n→
  po y.l (fun d=>uI y d.1 d.2.1 d.2.2.1 d.2.2.2.1 d.2.2.2.2.1 d.2.2.2.2.2.1 d.2.2.2.2.2.2.1 d.2.2.2.2.2.2.2.1 d.2.2.2.2.2.2.2.2.1) n
   (y.l,l,(l.length:Int),(i:Int),y,0,y.gs 1,day,y.gs 2,s.1,y.gs 3,s.2,x,k,known)=
  some (.brk (y,0,y.gs 1,day,y.gs 2,(lB k day known (l.drop i) s).1,y.gs 3,(lB k day known (l.drop i) s).2,x,k,known)):=by
 intro n
 induction n with
 |zero=>grind
 |
  succ n ih=>
  intro i s hi hn
  have key:=fun s(h:i<l.length)=>ih (i+1) s (by omega) (by omega)
  unfold po at key ⊢
  rw[aN]
  generalize aL _ n=rec at key ⊢
  by_cases h:i<l.length
  ·have hd:l.drop i=l[i]::l.drop (i+1):=ma h
   have hw:bq ((i:Int)+1)=((i+1:Nat):Int):=aY (by have:aH=140737488355328:=rfl;omega)
   have hlt:(i:Int)<(l.length:Int):=by omega
   simp only[cE hlt,cj,dV i,aA hlt,cK (t:=bJ) h,hw]
   have key:=fun s=>key s h
   by_cases h1:bl aK l[i].1 k=true
   ·by_cases h2:l[i].2.2.2.1≤known
    ·rw[aA h1,cz h2,XI,aM]
     simp only[Bool.not_true,eM,dB]
     rw[key,hd]
     simp only[lB,wa,lA,h1,cE h2,Bool.and_self,cj,List.foldl_cons]
    ·rw[aA h1,aC (by grind),key,hd]
     simp only[lB,wa,lA,h1,du h2,Bool.and_false,eM,dB]
   ·rw[aC h1,key,hd]
    simp only[lB,wa,lA,h1,Bool.false_and,eM,dB]
  ·have:i=l.length:=by omega
   subst this
   simp only[Int.lt_irrefl,decide_false,eM,dB,List.drop_length]
   rfl
def yY(l:Zz)(k:cN)(day known:Int):Option (Int×Bool):=if l.length≤aH then some (uw l k day known) else none
theorem Pu(l:Zz)(k:cN)(day known:Int)(hl:l.length≤aH):f121 l k day known=some (uw l k day known):=by
 unfold f121
 simp only[EB,aM]
 rw[qS (r:=.brk (lB k day known l (zF,false)))]
 ·grind [aG,uw]
 ·intro y
  have h:=XJ y l k day known l hl (Int.toNat (l.length:Int)+1) 0 (zF,false) (by omega) (by simp)
  simp_all[Ak,zF,aG,gv]
def XK:bh:=aF G [.tmp 8,.tmp 9] 121 [(.val (.slice 64 bJ)),(.val aK),vI,vI] [] 90 Xi [] (.br (u4 yY))
theorem XL:hS XK:=bh.sub acr fun d r h=>by
 have h:yY d.1 d.2.1 d.2.2.1 d.2.2.2.1=some r:=h
 exact(by grind[yY,Pu]:f121 d.1 d.2.1 d.2.2.1 d.2.2.2.1=some r)
end Go.Proofs.YtpmlkhjpbjnagaaGreat
