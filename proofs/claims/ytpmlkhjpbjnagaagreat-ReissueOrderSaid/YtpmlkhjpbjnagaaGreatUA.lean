/- part -/
import Derived.Test.YtpmlkhjpbjnagaaGreatF5
import Derived.Test.YtpmlkhjpbjnagaaGreatA5
noncomputable section
namespace Go.Proofs.YtpmlkhjpbjnagaaGreat
open Go.Ax
def Lh(a b:Int):Int:=if a<b then-1 else if b<a then 1 else 0
theorem TT(a b:Int):f30 a b=some (Lh a b):=by
 grind [f30,f57,Lh]
def TU(a b:gK):Int:=if Lh a.2.2.2.1 b.2.2.2.1=0 then Lh a.2.2.2.2.1 b.2.2.2.2.1 else Lh a.2.2.2.1 b.2.2.2.1
theorem TV(x y:Int):f29 [x,y]=some (if x=0 then y else x):=by
 by_cases hx:x=0
 ·subst hx
  by_cases hy:y=0
  ·subst hy;rfl
  ·have hw:bp 1=1:=rfl
   simp only[f29,pj,gM,List.length_nil,jB,aN]
   simp[hw,nth,hy,aI,bX]
 ·simp only[f29,pj,gM,List.length_nil,jB,aN]
  simp[nth,hx,aI,bX]
theorem TW(a b:gK):f71 a b=some (TU a b):=by
 simp only[f71,TT,aM,TV,TU]
def mX(day:Int)(s:gK×Bool)(f:gK):gK×Bool:=
 if f.2.2.1.1≤day∧day<f.2.2.1.2.1∧(s.2=false∨TU s.1 f≤0) then(f,true) else s
def lu(k:cL)(known:Int)(f:gK):Bool:=bl aJ f.1 k&&decide (f.2.2.2.1≤known)
def lv(k:cL)(day known:Int)(l:Zz)(s:gK×Bool):gK×Bool:=(l.filter (lu k known)).foldl (mX day) s
def zF:gK:=(((0:Int),((0:Int),((0:Int),()))),((0:Int),(((0:Int),((0:Int),())),((0:Int),((0:Int),())))))
def um(l:Zz)(k:cL)(day known:Int):Int×Bool:=
 let s:=lv k day known l (zF,false)
 if s.2=true∧0≤s.1.2.1 then(s.1.2.1,true) else(0,false)
theorem Xk(y:YC)(f:gK)(day:Int)(s:gK×Bool):
 uD y f y 0 (y.gs 1) day (y.gs 2) s.1 (y.gs 3) s.2=some (true,y,0,y.gs 1,day,y.gs 2,(mX day s f).1,y.gs 3,(mX day s f).2):=by
 unfold uD
 rw[gp]
 simp only[cj,TW,aM]
 grind [mX,Nat.beq]
theorem Xl(y:YC)(l:Zz)(k:cL)(day known:Int)(x:Zz)(hl:l.length≤aH):
 ∀(n i:Nat)(s:gK×Bool),i≤l.length→l.length -i<n→
  pn y.l (fun d=>uD y d.1 d.2.1 d.2.2.1 d.2.2.2.1 d.2.2.2.2.1 d.2.2.2.2.2.1 d.2.2.2.2.2.2.1 d.2.2.2.2.2.2.2.1 d.2.2.2.2.2.2.2.2.1) n
   (y.l,l,(l.length:Int),(i:Int),y,0,y.gs 1,day,y.gs 2,s.1,y.gs 3,s.2,x,k,known)=
  some (.brk (y,0,y.gs 1,day,y.gs 2,(lv k day known (l.drop i) s).1,y.gs 3,(lv k day known (l.drop i) s).2,x,k,known)):=by
 intro n
 induction n with
 |zero=>grind
 |
  succ n ih=>
  intro i s hi hn
  have key:=fun s(h:i<l.length)=>ih (i+1) s (by omega) (by omega)
  unfold pn at key ⊢
  rw[aN]
  generalize aL _ n=rec at key ⊢
  by_cases h:i<l.length
  ·have hd:l.drop i=l[i]::l.drop (i+1):=l7 h
   have hw:bp ((i:Int)+1)=((i+1:Nat):Int):=bk (by have:aH=140737488355328:=rfl;omega)
   have hlt:(i:Int)<(l.length:Int):=by omega
   simp only[cQ hlt,cj,eA i,aA hlt,cP (t:=bH) h,hw]
   have key:=fun s=>key s h
   by_cases h1:bl aJ l[i].1 k=true
   ·by_cases h2:l[i].2.2.2.1≤known
    ·rw[aA h1,cH h2,Xk,aM]
     simp only[Bool.not_true,eK,dz]
     rw[key,hd]
     simp only[lv,vT,lu,h1,cQ h2,Bool.and_self,cj,List.foldl_cons]
    ·rw[aA h1,aC (by grind),key,hd]
     simp only[lv,vT,lu,h1,dE h2,Bool.and_false,eK,dz]
   ·rw[aC h1,key,hd]
    simp only[lv,vT,lu,h1,Bool.false_and,eK,dz]
  ·have:i=l.length:=by omega
   subst this
   simp only[Int.lt_irrefl,decide_false,eK,dz,List.drop_length]
   rfl
def yQ(l:Zz)(k:cL)(day known:Int):Option (Int×Bool):=if l.length≤aH then some (um l k day known) else none
theorem O3(l:Zz)(k:cL)(day known:Int)(hl:l.length≤aH):f121 l k day known=some (um l k day known):=by
 unfold f121
 simp only[Es,aM]
 rw[qP (r:=.brk (lv k day known l (zF,false)))]
 ·grind [aF,um]
 ·intro y
  have h:=Xl y l k day known l hl (Int.toNat (l.length:Int)+1) 0 (zF,false) (by omega) (by simp)
  simp_all[Ac,zF,aF,gp]
def Xm:aZ:=aG G [.tmp 8,.tmp 9] 121 [(.val (.slice 64 bH)),(.val aJ),vI,vI] [] 90 WR [] (.bq (u4 yQ))
theorem Xn:hS Xm:=aZ.sub ab0 fun d r h=>by
 have h:yQ d.1 d.2.1 d.2.2.1 d.2.2.2.1=some r:=h
 exact(by grind[yQ,O3]:f121 d.1 d.2.1 d.2.2.1 d.2.2.2.1=some r)
end Go.Proofs.YtpmlkhjpbjnagaaGreat
