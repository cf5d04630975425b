/- part -/
import Derived.Test.YtaghhonjcdokjaaGreatDoorF7
import Derived.Test.YtaghhonjcdokjaaGreatDoorA5
noncomputable section
namespace Go.Proofs.YtaghhonjcdokjaaGreatDoor
open Go.Ax
def IY(a b:Int):Int:=if a<b then-1 else if b<a then 1 else 0
theorem LM(a b:Int):f249 a b=some (IY a b):=by
 simp only[f249,f219,IY]
 by_cases h:a<b
 ·simp[h]
 ·by_cases h2:b<a<;>simp[h,h2]
def LN(a b:nV):Int:=if IY a.2.2.2.1 b.2.2.2.1=0 then IY a.2.2.2.2.1 b.2.2.2.2.1 else IY a.2.2.2.1 b.2.2.2.1
theorem LO(x y:Int):f248 [x,y]=some (if x=0 then y else x):=by
 by_cases hx:x=0
 ·subst hx
  by_cases hy:y=0
  ·subst hy;rfl
  ·have hw:bB 1=1:=rfl
   simp only[f248,yB,fc,qf,fb,aO]
   simp[hw,nth,hy,aI,cw]
 ·simp only[f248,yB,fc,qf,fb,aO]
  simp[nth,hx,aI,cw]
theorem LR(a b:nV):f224 a b=some (LN a b):=by
 simp only[f224,LM,aK,LO,LN]
def mH(day:Int)(s:nV×Bool)(f:nV):nV×Bool:=
 if f.2.2.1.1≤day∧day<f.2.2.1.2.1∧(s.2=false∨LN s.1 f≤0) then(f,true) else s
def jq(k:j7)(known:Int)(f:nV):Bool:=aY bS f.1 k&&decide (f.2.2.2.1≤known)
def jK(k:j7)(day known:Int)(l:Zy)(s:nV×Bool):nV×Bool:=(l.filter (jq k known)).foldl (mH day) s
def zF:nV:=(((0:Int),((0:Int),((0:Int),()))),((0:Int),(((0:Int),((0:Int),())),((0:Int),((0:Int),())))))
def pn(l:Zy)(k:j7)(day known:Int):Int×Bool:=
 let s:=jK k day known l (zF,false)
 if s.2=true∧0≤s.1.2.1 then(s.1.2.1,true) else(0,false)
theorem TA(y:YC)(f:nV)(day:Int)(s:nV×Bool):
 tj y f y 0 (y.gs 1) day (y.gs 2) s.1 (y.gs 3) s.2=some (true,y,0,y.gs 1,day,y.gs 2,(mH day s f).1,y.gs 3,(mH day s f).2):=by
 unfold tj
 rw[iZ]
 simp only[bZ,LR,aK]
 unfold mH
 obtain⟨s1,s2⟩:=s
 by_cases h1:f.2.2.1.1≤day<;>by_cases h2:day<f.2.2.1.2.1<;>cases s2<;>by_cases h3:LN s1 f≤0<;>simp[h1,h2,h3,Nat.beq]
theorem TB(y:YC)(l:Zy)(k:j7)(day known:Int)(x:Zy)(hl:l.length≤aG):
 ∀(n i:Nat)(s:nV×Bool),i≤l.length→l.length -i<n→
  oO y.l (fun d=>tj y d.1 d.2.1 d.2.2.1 d.2.2.2.1 d.2.2.2.2.1 d.2.2.2.2.2.1 d.2.2.2.2.2.2.1 d.2.2.2.2.2.2.2.1 d.2.2.2.2.2.2.2.2.1) n
   (y.l,l,(l.length:Int),(i:Int),y,0,y.gs 1,day,y.gs 2,s.1,y.gs 3,s.2,x,k,known)=
  some (.brk (y,0,y.gs 1,day,y.gs 2,(jK k day known (l.drop i) s).1,y.gs 3,(jK k day known (l.drop i) s).2,x,k,known)):=by
 intro n
 induction n with
 |zero=>intro i s _ h;omega
 |
  succ n ih=>
  intro i s hi hn
  have key:=fun s(h:i<l.length)=>ih (i+1) s (by omega) (by omega)
  unfold oO at key ⊢
  rw[aO]
  generalize aM _ n=rec at key ⊢
  by_cases h:i<l.length
  ·have hd:l.drop i=l[i]::l.drop (i+1):=kU h
   have hw:bB ((i:Int)+1)=((i+1:Nat):Int):=bG (by have:aG=140737488355328:=rfl;omega)
   have hlt:(i:Int)<(l.length:Int):=by omega
   simp only[cU hlt,bZ,fP i,aA hlt,ew (t:=dq) h,hw]
   have key:=fun s=>key s h
   by_cases h1:aY bS l[i].1 k=true
   ·by_cases h2:l[i].2.2.2.1≤known
    ·rw[aA h1,db h2,TA,aK]
     simp only[Bool.not_true,dL,cW]
     rw[key,hd]
     simp only[jK,vq,jq,h1,cU h2,Bool.and_self,bZ,List.foldl_cons]
    ·rw[aA h1,aD (by simpa using h2),key,hd]
     simp only[jK,vq,jq,h1,dZ h2,Bool.and_false,dL,cW]
   ·rw[aD h1,key,hd]
    simp only[jK,vq,jq,h1,Bool.false_and,dL,cW]
  ·have:i=l.length:=by omega
   subst this
   simp only[Int.lt_irrefl,decide_false,dL,cW,List.drop_length]
   rfl
def rU(l:Zy)(k:j7)(day known:Int):Option (Int×Bool):=if l.length≤aG then some (pn l k day known) else none
theorem LS(l:Zy)(k:j7)(day known:Int)(hl:l.length≤aG):f151 l k day known=some (pn l k day known):=by
 unfold f151
 simp only[yA,aK]
 rw[tc (r:=.brk (jK k day known l (zF,false)))]
 ·rw[aJ]
  unfold pn
  generalize jK k day known l (zF,false)=s
  obtain⟨s1,s2⟩:=s
  cases s2
  ·simp
  ·by_cases h:s1.2.1<0
   ·have:¬(0≤s1.2.1):=by omega
    simp[h,this]
   ·have:0≤s1.2.1:=by omega
    simp[h,this]
 ·intro y
  have h:=TB y l k day known l hl (Int.toNat (l.length:Int)+1) 0 (zF,false) (by omega) (by simp)
  unfold yC
  have h':=h
  simp only[zF] at h'
  erw[h']
  rw[aJ]
  simp only[aK,iZ,bZ,iC,zF]
def TC:aX:=aE G [.tmp 8,.tmp 9] 151 [(.val (.slice 64 dq)),(.val bS),vI,vI] [] 90 TI [] (.bC (u4 rU))
theorem TE:hS TC:=aX.sub Yl fun d r h=>by
 have h:rU d.1 d.2.1 d.2.2.1 d.2.2.2.1=some r:=h
 unfold rU at h
 split at h
 ·rename_i hl;rw[←h];exact LS _ _ _ _ hl
 ·cases h
end Go.Proofs.YtaghhonjcdokjaaGreatDoor
