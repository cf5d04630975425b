/- part -/
import Derived.Test.YtgdcjlldafmomaaGreatF5
import Derived.Test.YtgdcjlldafmomaaGreatA5
noncomputable section
namespace Go.Proofs.YtgdcjlldafmomaaGreat
open Go.Ax
def Ga(a b:Int):Int:=if a<b then-1 else if b<a then 1 else 0
theorem L9(a b:Int):f70 a b=some (Ga a b):=by
 simp only[f70,f110,Ga]
 by_cases h:a<b
 ·simp[h]
 ·by_cases h2:b<a<;>simp[h,h2]
def xR(a b:fa):Int:=if Ga a.2.2.2.1 b.2.2.2.1=0 then Ga a.2.2.2.2.1 b.2.2.2.2.1 else Ga a.2.2.2.1 b.2.2.2.1
theorem Ma(x y:Int):f69 [x,y]=some (if x=0 then y else x):=by
 by_cases hx:x=0
 ·subst hx
  by_cases hy:y=0
  ·subst hy;rfl
  ·have hw:aZ 1=1:=rfl
   simp only[f69,Bp,dE,jA,dJ,aM]
   simp[hw,nth,hy,aG,cn]
 ·simp only[f69,Bp,dE,jA,dJ,aM]
  simp[nth,hx,aG,cn]
theorem Gb(a b:fa):f42 a b=some (xR a b):=by
 simp only[f42,L9,aH,Ma,xR]
def gY(day:Int)(s:fa×Bool)(f:fa):fa×Bool:=
 if f.2.2.1.1≤day∧day<f.2.2.1.2.1∧(s.2=false∨xR s.1 f≤0) then(f,true) else s
def dw(k:ib)(known:Int)(f:fa):Bool:=aX bu f.1 k&&decide (f.2.2.2.1≤known)
def iB(k:ib)(day known:Int)(l:Zk)(s:fa×Bool):fa×Bool:=(l.filter (dw k known)).foldl (gY day) s
def zF:fa:=(((0:Int),((0:Int),((0:Int),()))),((0:Int),(((0:Int),((0:Int),())),((0:Int),((0:Int),())))))
def mC(l:Zk)(k:ib)(day known:Int):Int×Bool:=
 let s:=iB k day known l (zF,false)
 if s.2=true∧0≤s.1.2.1 then(s.1.2.1,true) else(0,false)
theorem OJ(y:YC)(f:fa)(day:Int)(s:fa×Bool):
 xP y f y 0 (y.gs 1) day (y.gs 2) s.1 (y.gs 3) s.2=some (true,y,0,y.gs 1,day,y.gs 2,(gY day s f).1,y.gs 3,(gY day s f).2):=by
 unfold xP
 rw[eR]
 simp only[bC,Gb,aH]
 unfold gY
 obtain⟨s1,s2⟩:=s
 by_cases h1:f.2.2.1.1≤day<;>by_cases h2:day<f.2.2.1.2.1<;>cases s2<;>by_cases h3:xR s1 f≤0<;>simp[h1,h2,h3,Nat.beq]
theorem OL(y:YC)(l:Zk)(k:ib)(day known:Int)(x:Zk)(hl:l.length≤aE):
 ∀(n i:Nat)(s:fa×Bool),i≤l.length→l.length -i<n→
  qm y.l (fun d=>xP y d.1 d.2.1 d.2.2.1 d.2.2.2.1 d.2.2.2.2.1 d.2.2.2.2.2.1 d.2.2.2.2.2.2.1 d.2.2.2.2.2.2.2.1 d.2.2.2.2.2.2.2.2.1) n
   (y.l,l,(l.length:Int),(i:Int),y,0,y.gs 1,day,y.gs 2,s.1,y.gs 3,s.2,x,k,known)=
  some (.brk (y,0,y.gs 1,day,y.gs 2,(iB k day known (l.drop i) s).1,y.gs 3,(iB k day known (l.drop i) s).2,x,k,known)):=by
 intro n
 induction n with
 |zero=>intro i s _ h;omega
 |
  succ n ih=>
  intro i s hi hn
  have key:=fun s(h:i<l.length)=>ih (i+1) s (by omega) (by omega)
  unfold qm at key ⊢
  rw[aM]
  generalize aK _ n=rec at key ⊢
  by_cases h:i<l.length
  ·have hd:l.drop i=l[i]::l.drop (i+1):=jz h
   have hw:aZ ((i:Int)+1)=((i+1:Nat):Int):=bw (by have:aE=140737488355328:=rfl;omega)
   have hlt:(i:Int)<(l.length:Int):=by omega
   simp only[cC hlt,bC,dQ i,aA hlt,dg (t:=aP) h,hw]
   have key:=fun s=>key s h
   by_cases h1:aX bu l[i].1 k=true
   ·by_cases h2:l[i].2.2.2.1≤known
    ·rw[aA h1,cI h2,OJ,aH]
     simp only[kA,cm,bP]
     rw[key,hd]
     simp only[iB,lE,dw,h1,cC h2,Bool.and_self,bC,List.foldl_cons]
    ·rw[aA h1,aC (by simpa using h2),key,hd]
     simp only[iB,lE,dw,h1,dF h2,Bool.and_false,cm,bP]
   ·rw[aC h1,key,hd]
    simp only[iB,lE,dw,h1,Bool.false_and,cm,bP]
  ·have:i=l.length:=by omega
   subst this
   simp only[Int.lt_irrefl,decide_false,cm,bP,List.drop_length]
   rfl
def xS(l:Zk)(k:ib)(day known:Int):Option (Int×Bool):=if l.length≤aE then some (mC l k day known) else none
theorem Mb(l:Zk)(k:ib)(day known:Int)(hl:l.length≤aE):f53 l k day known=some (mC l k day known):=by
 unfold f53
 simp only[ue,aH]
 rw[mK (r:=.brk (iB k day known l (zF,false)))]
 ·rw[aI]
  unfold mC
  generalize iB k day known l (zF,false)=s
  obtain⟨s1,s2⟩:=s
  cases s2
  ·simp
  ·by_cases h:s1.2.1<0
   ·have:¬(0≤s1.2.1):=by omega
    simp[h,this]
   ·have:0≤s1.2.1:=by omega
    simp[h,this]
 ·intro y
  have h:=OL y l k day known l hl (Int.toNat (l.length:Int)+1) 0 (zF,false) (by omega) (by simp)
  unfold Bq
  have h':=h
  simp only[zF] at h'
  erw[h']
  rw[aI]
  simp only[aH,eR,bC,eS,zF]
def V4:aW:=aF G [.tmp 8,.tmp 9] 53 [(.val (.slice 64 aP)),(.val bu),vI,vI] [] 90 Oz [] (.bH (u4 xS))
theorem V5:hS V4:=aW.sub x53 fun d r h=>by
 have h:xS d.1 d.2.1 d.2.2.1 d.2.2.2.1=some r:=h
 unfold xS at h
 split at h
 ·rename_i hl;rw[←h];exact Mb _ _ _ _ hl
 ·cases h
end Go.Proofs.YtgdcjlldafmomaaGreat
