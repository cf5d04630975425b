/- part -/
import Derived.Test.YtpmlkhjpbjnagaaGreatF5
import Derived.Test.YtpmlkhjpbjnagaaGreatA5
noncomputable section
namespace Go.Proofs.YtpmlkhjpbjnagaaGreat
open Go.Ax
def JW(a b:Int):Int:=if a<b then-1 else if b<a then 1 else 0
theorem Tt(a b:Int):Jc a b=some (JW a b):=by
 simp only[Jc,f57,JW]
 by_cases h:a<b
 ·simp[h]
 ·by_cases h2:b<a<;>simp[h,h2]
def ze(a b:fq):Int:=if JW a.2.2.2.1 b.2.2.2.1=0 then JW a.2.2.2.2.1 b.2.2.2.2.1 else JW a.2.2.2.1 b.2.2.2.1
theorem Tu(x y:Int):SY [x,y]=some (if x=0 then y else x):=by
 by_cases hx:x=0
 ·subst hx
  by_cases hy:y=0
  ·subst hy;rfl
  ·have hw:aZ 1=1:=rfl
   simp only[SY,C7,d9,lO,ew,aN]
   simp[hw,nth,hy,aH,cw]
 ·simp only[SY,C7,d9,lO,ew,aN]
  simp[nth,hx,aH,cw]
theorem JX(a b:fq):WK a b=some (ze a b):=by
 simp only[WK,Tt,aL,Tu,ze]
def hH(day:Int)(s:fq×Bool)(f:fq):fq×Bool:=
 if f.2.2.1.1≤day∧day<f.2.2.1.2.1∧(s.2=false∨ze s.1 f≤0) then(f,true) else s
def dF(k:cF)(known:Int)(f:fq):Bool:=bD aF f.1 k&&decide (f.2.2.2.1≤known)
def iz(k:cF)(day known:Int)(l:Zn)(s:fq×Bool):fq×Bool:=(l.filter (dF k known)).foldl (hH day) s
def zF:fq:=(((0:Int),((0:Int),((0:Int),()))),((0:Int),(((0:Int),((0:Int),())),((0:Int),((0:Int),())))))
def jS(l:Zn)(k:cF)(day known:Int):Int×Bool:=
 let s:=iz k day known l (zF,false)
 if s.2=true∧0≤s.1.2.1 then(s.1.2.1,true) else(0,false)
theorem Xe(y:YC)(f:fq)(day:Int)(s:fq×Bool):
 tC y f y 0 (y.gs 1) day (y.gs 2) s.1 (y.gs 3) s.2=some (true,y,0,y.gs 1,day,y.gs 2,(hH day s f).1,y.gs 3,(hH day s f).2):=by
 unfold tC
 rw[fh]
 simp only[bU,JX,aL]
 unfold hH
 obtain⟨s1,s2⟩:=s
 by_cases h1:f.2.2.1.1≤day<;>by_cases h2:day<f.2.2.1.2.1<;>cases s2<;>by_cases h3:ze s1 f≤0<;>simp[h1,h2,h3,Nat.beq]
theorem Xf(y:YC)(l:Zn)(k:cF)(day known:Int)(x:Zn)(hl:l.length≤aG):
 ∀(n i:Nat)(s:fq×Bool),i≤l.length→l.length -i<n→
  oJ y.l (fun d=>tC y d.1 d.2.1 d.2.2.1 d.2.2.2.1 d.2.2.2.2.1 d.2.2.2.2.2.1 d.2.2.2.2.2.2.1 d.2.2.2.2.2.2.2.1 d.2.2.2.2.2.2.2.2.1) n
   (y.l,l,(l.length:Int),(i:Int),y,0,y.gs 1,day,y.gs 2,s.1,y.gs 3,s.2,x,k,known)=
  some (.bA (y,0,y.gs 1,day,y.gs 2,(iz k day known (l.drop i) s).1,y.gs 3,(iz k day known (l.drop i) s).2,x,k,known)):=by
 intro n
 induction n with
 |zero=>intro i s _ h;omega
 |
  succ n ih=>
  intro i s hi hn
  have key:=fun s(h:i<l.length)=>ih (i+1) s (by omega) (by omega)
  unfold oJ at key ⊢
  rw[aN]
  generalize aK _ n=rec at key ⊢
  by_cases h:i<l.length
  ·have hd:l.drop i=l[i]::l.drop (i+1):=kA h
   have hw:aZ ((i:Int)+1)=((i+1:Nat):Int):=bG (by have:aG=140737488355328:=rfl;omega)
   have hlt:(i:Int)<(l.length:Int):=by omega
   simp only[cS hlt,bU,eN i,aA hlt,dg (t:=aW) h,hw]
   have key:=fun s=>key s h
   by_cases h1:bD aF l[i].1 k=true
   ·by_cases h2:l[i].2.2.2.1≤known
    ·rw[aA h1,cU h2,Xe,aL]
     simp only[Bool.not_true,dr,cT]
     rw[key,hd]
     simp only[iz,pI,dF,h1,cS h2,Bool.and_self,bU,List.foldl_cons]
    ·rw[aA h1,aC (by simpa using h2),key,hd]
     simp only[iz,pI,dF,h1,dz h2,Bool.and_false,dr,cT]
   ·rw[aC h1,key,hd]
    simp only[iz,pI,dF,h1,Bool.false_and,dr,cT]
  ·have:i=l.length:=by omega
   subst this
   simp only[Int.lt_irrefl,decide_false,dr,cT,List.drop_length]
   rfl
def uU(l:Zn)(k:cF)(day known:Int):Option (Int×Bool):=if l.length≤aG then some (jS l k day known) else none
theorem N2(l:Zn)(k:cF)(day known:Int)(hl:l.length≤aG):S0 l k day known=some (jS l k day known):=by
 unfold S0
 simp only[uu,aL]
 rw[nC (r:=.bA (iz k day known l (zF,false)))]
 ·rw[aI]
  unfold jS
  generalize iz k day known l (zF,false)=s
  obtain⟨s1,s2⟩:=s
  cases s2
  ·simp
  ·by_cases h:s1.2.1<0
   ·have:¬(0≤s1.2.1):=by omega
    simp[h,this]
   ·have:0≤s1.2.1:=by omega
    simp[h,this]
 ·intro y
  have h:=Xf y l k day known l hl (Int.toNat (l.length:Int)+1) 0 (zF,false) (by omega) (by simp)
  unfold yH
  have h':=h
  simp only[zF] at h'
  erw[h']
  rw[aI]
  simp only[aL,fh,bU,gp,zF]
def Xg:aX:=aE G [.tmp 8,.tmp 9] 121 [(.val (.slice 64 aW)),(.val aF),vI,vI] [] 90 WM [] (.bH (u4 uU))
theorem Xh:hS Xg:=aX.sub acp fun d r h=>by
 have h:uU d.1 d.2.1 d.2.2.1 d.2.2.2.1=some r:=h
 unfold uU at h
 split at h
 ·rename_i hl;rw[←h];exact N2 _ _ _ _ hl
 ·cases h
end Go.Proofs.YtpmlkhjpbjnagaaGreat
