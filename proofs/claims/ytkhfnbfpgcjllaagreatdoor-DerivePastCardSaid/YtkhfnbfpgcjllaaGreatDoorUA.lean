/- part -/
import Derived.Test.YtkhfnbfpgcjllaaGreatDoorF7
import Derived.Test.YtkhfnbfpgcjllaaGreatDoorA5
noncomputable section
namespace Go.Proofs.YtkhfnbfpgcjllaaGreatDoor
open Go.Ax
def NF(a b:Int):Int:=if a<b then-1 else if b<a then 1 else 0
theorem Sa(a b:Int):O9 a b=some (NF a b):=by
 simp only[O9,Tw,NF]
 by_cases h:a<b
 ·simp[h]
 ·by_cases h2:b<a<;>simp[h,h2]
def Dg(a b:iF):Int:=if NF a.2.2.2.1 b.2.2.2.1=0 then NF a.2.2.2.2.1 b.2.2.2.2.1 else NF a.2.2.2.1 b.2.2.2.1
theorem Sb(x y:Int):Pa [x,y]=some (if x=0 then y else x):=by
 by_cases hx:x=0
 ·subst hx
  by_cases hy:y=0
  ·subst hy;rfl
  ·have hw:aV 1=1:=rfl
   simp only[Pa,Ee,db,fZ,dT,aK]
   simp[hw,nth,hy,aI,cU]
 ·simp only[Pa,Ee,db,fZ,dT,aK]
  simp[nth,hx,aI,cU]
theorem NG(a b:iF):f64 a b=some (Dg a b):=by
 simp only[f64,Sa,aD,Sb,Dg]
def fV(day:Int)(s:Nu)(f:iF):Nu:=
 if f.2.2.1.1≤day∧day<f.2.2.1.2.1∧(s.2=false∨Dg s.1 f≤0) then(f,true) else s
def cN(k:iw)(known:Int)(f:iF):Bool:=bN aQ f.1 k&&decide (f.2.2.2.1≤known)
def iJ(k:iw)(day known:Int)(l:Zj)(s:Nu):Nu:=(l.filter (cN k known)).foldl (fV day) s
def zF:iF:=(((0:Int),((0:Int),((0:Int),()))),((0:Int),(((0:Int),((0:Int),())),((0:Int),((0:Int),())))))
def fb(l:Zj)(k:iw)(day known:Int):Int×Bool:=
 let s:=iJ k day known l (zF,false)
 if s.2=true∧0≤s.1.2.1 then(s.1.2.1,true) else(0,false)
theorem aap(y:YC)(f:iF)(day:Int)(s:Nu):
 Eh y f y 0 (y.gs 1) day (y.gs 2) s.1 (y.gs 3) s.2=some (true,y,0,y.gs 1,day,y.gs 2,(fV day s f).1,y.gs 3,(fV day s f).2):=by
 unfold Eh
 rw[gn]
 simp only[cu,NG,aD]
 unfold fV
 obtain⟨s1,s2⟩:=s
 by_cases h1:f.2.2.1.1≤day<;>by_cases h2:day<f.2.2.1.2.1<;>cases s2<;>by_cases h3:Dg s1 f≤0<;>simp[h1,h2,h3,Nat.beq]
theorem aaq(y:YC)(l:Zj)(k:iw)(day known:Int)(x:Zj)(hl:l.length≤aF):
 ∀(n i:Nat)(s:Nu),i≤l.length→l.length -i<n→
  uh y.l (fun d=>Eh y d.1 d.2.1 d.2.2.1 d.2.2.2.1 d.2.2.2.2.1 d.2.2.2.2.2.1 d.2.2.2.2.2.2.1 d.2.2.2.2.2.2.2.1 d.2.2.2.2.2.2.2.2.1) n
   (y.l,l,(l.length:Int),(i:Int),y,0,y.gs 1,day,y.gs 2,s.1,y.gs 3,s.2,x,k,known)=
  some (.aX (y,0,y.gs 1,day,y.gs 2,(iJ k day known (l.drop i) s).1,y.gs 3,(iJ k day known (l.drop i) s).2,x,k,known)):=by
 intro n
 induction n with
 |zero=>intro i s _ h;omega
 |
  succ n ih=>
  intro i s hi hn
  have key:=fun s(h:i<l.length)=>ih (i+1) s (by omega) (by omega)
  unfold uh at key ⊢
  rw[aK]
  generalize aL _ n=rec at key ⊢
  by_cases h:i<l.length
  ·have hd:l.drop i=l[i]::l.drop (i+1):=iu h
   have hw:aV ((i:Int)+1)=((i+1:Nat):Int):=bS (by have:aF=140737488355328:=rfl;omega)
   have hlt:(i:Int)<(l.length:Int):=by omega
   simp only[bQ hlt,cu,dH i,aA hlt,cH (t:=aN) h,hw]
   have key:=fun s=>key s h
   by_cases h1:bN aQ l[i].1 k=true
   ·by_cases h2:l[i].2.2.2.1≤known
    ·rw[aA h1,bZ h2,aap,aD]
     simp only[tj,dv,dc]
     rw[key,hd]
     simp only[iJ,js,cN,h1,bQ h2,Bool.and_self,cu,List.foldl_cons]
    ·rw[aA h1,aB (by simpa using h2),key,hd]
     simp only[iJ,js,cN,h1,cD h2,Bool.and_false,dv,dc]
   ·rw[aB h1,key,hd]
    simp only[iJ,js,cN,h1,Bool.false_and,dv,dc]
  ·have:i=l.length:=by omega
   subst this
   simp only[Int.lt_irrefl,decide_false,dv,dc,List.drop_length]
   rfl
def rM(l:Zj)(k:iw)(day known:Int):Option (Int×Bool):=if l.length≤aF then some (fb l k day known) else none
theorem WC(l:Zj)(k:iw)(day known:Int)(hl:l.length≤aF):f37 l k day known=some (fb l k day known):=by
 unfold f37
 simp only[sk,aD]
 rw[oh (r:=.aX (iJ k day known l (zF,false)))]
 ·rw[aC]
  unfold fb
  generalize iJ k day known l (zF,false)=s
  obtain⟨s1,s2⟩:=s
  cases s2
  ·simp
  ·by_cases h:s1.2.1<0
   ·have:¬(0≤s1.2.1):=by omega
    simp[h,this]
   ·have:0≤s1.2.1:=by omega
    simp[h,this]
 ·intro y
  have h:=aaq y l k day known l hl (Int.toNat (l.length:Int)+1) 0 (zF,false) (by omega) (by simp)
  unfold Ef
  have h':=h
  simp only[zF] at h'
  erw[h']
  rw[aC]
  simp only[aD,gn,cu,fJ,zF]
def ahs:bG:=aG G [.tmp 8,.tmp 9] 37 [(.val (.slice 64 aN)),(.val aQ),vI,vI] [] 90 aa8 [] (.bY (u4 rM))
theorem aht:hS ahs:=bG.sub x37 fun d r h=>by
 have h:rM d.1 d.2.1 d.2.2.1 d.2.2.2.1=some r:=h
 unfold rM at h
 split at h
 ·rename_i hl;rw[←h];exact WC _ _ _ _ hl
 ·cases h
end Go.Proofs.YtkhfnbfpgcjllaaGreatDoor
