/- part -/
import Derived.Test.YtgdcjlldafmomaaGreatF1
import Derived.Test.YtgdcjlldafmomaaGreatA5
noncomputable section
namespace Go.Proofs.YtgdcjlldafmomaaGreat
open Go.Ax
def GI(a b:Int):Int:=if a<b then-1 else if b<a then 1 else 0
theorem MN(a b:Int):f70 a b=some (GI a b):=by
 simp only[f70,f110,GI]
 by_cases h:a<b
 ·simp[h]
 ·by_cases h2:b<a<;>simp[h,h2]
def xZ(a b:eQ):Int:=if GI a.2.2.2.1 b.2.2.2.1=0 then GI a.2.2.2.2.1 b.2.2.2.2.1 else GI a.2.2.2.1 b.2.2.2.1
theorem MO(x y:Int):f69 [x,y]=some (if x=0 then y else x):=by
 by_cases hx:x=0
 ·subst hx
  by_cases hy:y=0
  ·subst hy;rfl
  ·have hw:aZ 1=1:=rfl
   simp only[f69,AP,dH,jK,dO,aM]
   simp[hw,nth,hy,aG,bZ]
 ·simp only[f69,AP,dH,jK,dO,aM]
  simp[nth,hx,aG,bZ]
theorem GJ(a b:eQ):f42 a b=some (xZ a b):=by
 simp only[f42,MN,aJ,MO,xZ]
def eI(day:Int)(s:eQ×Bool)(f:eQ):eQ×Bool:=
 if f.2.2.1.1≤day∧day<f.2.2.1.2.1∧(s.2=false∨xZ s.1 f≤0) then(f,true) else s
def dg(k:gX)(known:Int)(f:eQ):Bool:=aY bx f.1 k&&decide (f.2.2.2.1≤known)
def gR(k:gX)(day known:Int)(l:Zk)(s:eQ×Bool):eQ×Bool:=(l.filter (dg k known)).foldl (eI day) s
def zF:eQ:=(((0:Int),((0:Int),((0:Int),()))),((0:Int),(((0:Int),((0:Int),())),((0:Int),((0:Int),())))))
def iU(l:Zk)(k:gX)(day known:Int):Int×Bool:=
 let s:=gR k day known l (zF,false)
 if s.2=true∧0≤s.1.2.1 then(s.1.2.1,true) else(0,false)
theorem PJ(y:YC)(f:eQ)(day:Int)(s:eQ×Bool):
 wU y f y 0 (y.gs 1) day (y.gs 2) s.1 (y.gs 3) s.2=some (true,y,0,y.gs 1,day,y.gs 2,(eI day s f).1,y.gs 3,(eI day s f).2):=by
 unfold wU
 rw[eP]
 simp only[bH,GJ,aJ]
 unfold eI
 obtain⟨s1,s2⟩:=s
 by_cases h1:f.2.2.1.1≤day<;>by_cases h2:day<f.2.2.1.2.1<;>cases s2<;>by_cases h3:xZ s1 f≤0<;>simp[h1,h2,h3,Nat.beq]
theorem PK(y:YC)(l:Zk)(k:gX)(day known:Int)(x:Zk)(hl:l.length≤aE):
 ∀(n i:Nat)(s:eQ×Bool),i≤l.length→l.length -i<n→
  pM y.l (fun d=>wU y d.1 d.2.1 d.2.2.1 d.2.2.2.1 d.2.2.2.2.1 d.2.2.2.2.2.1 d.2.2.2.2.2.2.1 d.2.2.2.2.2.2.2.1 d.2.2.2.2.2.2.2.2.1) n
   (y.l,l,(l.length:Int),(i:Int),y,0,y.gs 1,day,y.gs 2,s.1,y.gs 3,s.2,x,k,known)=
  some (.brk (y,0,y.gs 1,day,y.gs 2,(gR k day known (l.drop i) s).1,y.gs 3,(gR k day known (l.drop i) s).2,x,k,known)):=by
 intro n
 induction n with
 |zero=>intro i s _ h;omega
 |
  succ n ih=>
  intro i s hi hn
  have key:=fun s(h:i<l.length)=>ih (i+1) s (by omega) (by omega)
  unfold pM at key ⊢
  rw[aM]
  generalize aK _ n=rec at key ⊢
  by_cases h:i<l.length
  ·have hd:l.drop i=l[i]::l.drop (i+1):=jj h
   have hw:aZ ((i:Int)+1)=((i+1:Nat):Int):=bu (by have:aE=140737488355328:=rfl;omega)
   have hlt:(i:Int)<(l.length:Int):=by omega
   simp only[cu hlt,bH,ei i,aA hlt,cT (t:=aO) h,hw]
   have key:=fun s=>key s h
   by_cases h1:aY bx l[i].1 k=true
   ·by_cases h2:l[i].2.2.2.1≤known
    ·rw[aA h1,cH h2,PJ,aJ]
     simp only[oq,cJ,bY]
     rw[key,hd]
     simp only[gR,oi,dg,h1,cu h2,Bool.and_self,bH,List.foldl_cons]
    ·rw[aA h1,aC (by simpa using h2),key,hd]
     simp only[gR,oi,dg,h1,dz h2,Bool.and_false,cJ,bY]
   ·rw[aC h1,key,hd]
    simp only[gR,oi,dg,h1,Bool.false_and,cJ,bY]
  ·have:i=l.length:=by omega
   subst this
   simp only[Int.lt_irrefl,decide_false,cJ,bY,List.drop_length]
   rfl
def Ab(l:Zk)(k:gX)(day known:Int):Option (Int×Bool):=if l.length≤aE then some (iU l k day known) else none
theorem MP(l:Zk)(k:gX)(day known:Int)(hl:l.length≤aE):f53 l k day known=some (iU l k day known):=by
 unfold f53
 simp only[sX,aJ]
 rw[mF (r:=.brk (gR k day known l (zF,false)))]
 ·rw[aH]
  unfold iU
  generalize gR k day known l (zF,false)=s
  obtain⟨s1,s2⟩:=s
  cases s2
  ·simp
  ·by_cases h:s1.2.1<0
   ·have:¬(0≤s1.2.1):=by omega
    simp[h,this]
   ·have:0≤s1.2.1:=by omega
    simp[h,this]
 ·intro y
  have h:=PK y l k day known l hl (Int.toNat (l.length:Int)+1) 0 (zF,false) (by omega) (by simp)
  unfold AQ
  have h':=h
  simp only[zF] at h'
  erw[h']
  rw[aH]
  simp only[aJ,eP,bH,gv,zF]
def We:aW:=aF G [.tmp 8,.tmp 9] 53 [(.val (.slice 64 aO)),(.val bx),vI,vI] [] 90 X9 [] (.bE (u4 Ab))
theorem Wf:hS We:=aW.sub x53 fun d r h=>by
 have h:Ab d.1 d.2.1 d.2.2.1 d.2.2.2.1=some r:=h
 unfold Ab at h
 split at h
 ·rename_i hl;rw[←h];exact MP _ _ _ _ hl
 ·cases h
end Go.Proofs.YtgdcjlldafmomaaGreat
