/- part -/
import Derived.Test.YtkhfnbfpgcjllaaGreatDoorF7
import Derived.Test.YtkhfnbfpgcjllaaGreatDoorA5
noncomputable section
namespace Go.Proofs.YtkhfnbfpgcjllaaGreatDoor
open Go.Ax
def NJ(a b:Int):Int:=if a<b then-1 else if b<a then 1 else 0
theorem Sg(a b:Int):Pd a b=some (NJ a b):=by
 simp only[Pd,TC,NJ]
 by_cases h:a<b
 ·simp[h]
 ·by_cases h2:b<a<;>simp[h,h2]
def Dn(a b:iL):Int:=if NJ a.2.2.2.1 b.2.2.2.1=0 then NJ a.2.2.2.2.1 b.2.2.2.2.1 else NJ a.2.2.2.1 b.2.2.2.1
theorem Si(x y:Int):Pe [x,y]=some (if x=0 then y else x):=by
 by_cases hx:x=0
 ·subst hx
  by_cases hy:y=0
  ·subst hy;rfl
  ·have hw:aQ 1=1:=rfl
   simp only[Pe,Ek,da,fO,dV,aK]
   simp[hw,nth,hy,aG,cN]
 ·simp only[Pe,Ek,da,fO,dV,aK]
  simp[nth,hx,aG,cN]
theorem NK(a b:iL):f64 a b=some (Dn a b):=by
 simp only[f64,Sg,aD,Si,Dn]
def gj(day:Int)(s:Nx)(f:iL):Nx:=
 if f.2.2.1.1≤day∧day<f.2.2.1.2.1∧(s.2=false∨Dn s.1 f≤0) then(f,true) else s
def cL(k:hJ)(known:Int)(f:iL):Bool:=bM aR f.1 k&&decide (f.2.2.2.1≤known)
def iQ(k:hJ)(day known:Int)(l:Zh)(s:Nx):Nx:=(l.filter (cL k known)).foldl (gj day) s
def zF:iL:=(((0:Int),((0:Int),((0:Int),()))),((0:Int),(((0:Int),((0:Int),())),((0:Int),((0:Int),())))))
def fk(l:Zh)(k:hJ)(day known:Int):Int×Bool:=
 let s:=iQ k day known l (zF,false)
 if s.2=true∧0≤s.1.2.1 then(s.1.2.1,true) else(0,false)
theorem aau(y:YC)(f:iL)(day:Int)(s:Nx):
 En y f y 0 (y.gs 1) day (y.gs 2) s.1 (y.gs 3) s.2=some (true,y,0,y.gs 1,day,y.gs 2,(gj day s f).1,y.gs 3,(gj day s f).2):=by
 unfold En
 rw[gw]
 simp only[cC,NK,aD]
 unfold gj
 obtain⟨s1,s2⟩:=s
 by_cases h1:f.2.2.1.1≤day<;>by_cases h2:day<f.2.2.1.2.1<;>cases s2<;>by_cases h3:Dn s1 f≤0<;>simp[h1,h2,h3,Nat.beq]
theorem aav(y:YC)(l:Zh)(k:hJ)(day known:Int)(x:Zh)(hl:l.length≤aF):
 ∀(n i:Nat)(s:Nx),i≤l.length→l.length -i<n→
  uz y.l (fun d=>En y d.1 d.2.1 d.2.2.1 d.2.2.2.1 d.2.2.2.2.1 d.2.2.2.2.2.1 d.2.2.2.2.2.2.1 d.2.2.2.2.2.2.2.1 d.2.2.2.2.2.2.2.2.1) n
   (y.l,l,(l.length:Int),(i:Int),y,0,y.gs 1,day,y.gs 2,s.1,y.gs 3,s.2,x,k,known)=
  some (.aS (y,0,y.gs 1,day,y.gs 2,(iQ k day known (l.drop i) s).1,y.gs 3,(iQ k day known (l.drop i) s).2,x,k,known)):=by
 intro n
 induction n with
 |zero=>intro i s _ h;omega
 |
  succ n ih=>
  intro i s hi hn
  have key:=fun s(h:i<l.length)=>ih (i+1) s (by omega) (by omega)
  unfold uz at key ⊢
  rw[aK]
  generalize aL _ n=rec at key ⊢
  by_cases h:i<l.length
  ·have hd:l.drop i=l[i]::l.drop (i+1):=iA h
   have hw:aQ ((i:Int)+1)=((i+1:Nat):Int):=bU (by have:aF=140737488355328:=rfl;omega)
   have hlt:(i:Int)<(l.length:Int):=by omega
   simp only[bR hlt,cC,dK i,aA hlt,cJ (t:=aN) h,hw]
   have key:=fun s=>key s h
   by_cases h1:bM aR l[i].1 k=true
   ·by_cases h2:l[i].2.2.2.1≤known
    ·rw[aA h1,cq h2,aau,aD]
     simp only[tC,dv,dc]
     rw[key,hd]
     simp only[iQ,jC,cL,h1,bR h2,Bool.and_self,cC,List.foldl_cons]
    ·rw[aA h1,aB (by simpa using h2),key,hd]
     simp only[iQ,jC,cL,h1,cD h2,Bool.and_false,dv,dc]
   ·rw[aB h1,key,hd]
    simp only[iQ,jC,cL,h1,Bool.false_and,dv,dc]
  ·have:i=l.length:=by omega
   subst this
   simp only[Int.lt_irrefl,decide_false,dv,dc,List.drop_length]
   rfl
def rX(l:Zh)(k:hJ)(day known:Int):Option (Int×Bool):=if l.length≤aF then some (fk l k day known) else none
theorem WI(l:Zh)(k:hJ)(day known:Int)(hl:l.length≤aF):f37 l k day known=some (fk l k day known):=by
 unfold f37
 simp only[sD,aD]
 rw[oz (r:=.aS (iQ k day known l (zF,false)))]
 ·rw[aC]
  unfold fk
  generalize iQ k day known l (zF,false)=s
  obtain⟨s1,s2⟩:=s
  cases s2
  ·simp
  ·by_cases h:s1.2.1<0
   ·have:¬(0≤s1.2.1):=by omega
    simp[h,this]
   ·have:0≤s1.2.1:=by omega
    simp[h,this]
 ·intro y
  have h:=aav y l k day known l hl (Int.toNat (l.length:Int)+1) 0 (zF,false) (by omega) (by simp)
  unfold El
  have h':=h
  simp only[zF] at h'
  erw[h']
  rw[aC]
  simp only[aD,gw,cC,fN,zF]
def ahy:bH:=aI G [.tmp 8,.tmp 9] 37 [(.val (.slice 64 aN)),(.val aR),vI,vI] [] 90 abd [] (.bZ (u4 rX))
theorem ahz:hS ahy:=bH.sub x37 fun d r h=>by
 have h:rX d.1 d.2.1 d.2.2.1 d.2.2.2.1=some r:=h
 unfold rX at h
 split at h
 ·rename_i hl;rw[←h];exact WI _ _ _ _ hl
 ·cases h
end Go.Proofs.YtkhfnbfpgcjllaaGreatDoor
