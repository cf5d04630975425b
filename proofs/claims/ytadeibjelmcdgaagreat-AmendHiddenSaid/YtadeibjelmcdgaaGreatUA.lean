/- The value of a key on a day, in plain words, in place of the printed function. No condition. -/
import Derived.Test.YtadeibjelmcdgaaGreatFA
import Derived.Test.YtadeibjelmcdgaaGreatA5
noncomputable section
namespace Go.Proofs.YtadeibjelmcdgaaGreat
open Go.Ax
def ug(a b:Int):Int:=if a<b then-1 else if b<a then 1 else 0
theorem Gk(a b:Int):f42 a b=some (ug a b):=by
 simp only[f42,f65,ug]
 by_cases h:a<b
 ·simp[h]
 ·by_cases h2:b<a<;>simp[h,h2]
def uh(a b:aM):Int:=if ug a.2.2.2.1 b.2.2.2.1=0 then ug a.2.2.2.2.1 b.2.2.2.2.1 else ug a.2.2.2.1 b.2.2.2.1
theorem Gl(x y:Int):f41 [x,y]=some (if x=0 then y else x):=by
 by_cases hx:x=0
 ·subst hx
  by_cases hy:y=0
  ·subst hy;rfl
  ·have hw:bM 1=1:=rfl
   simp only[f41,uH,List.length_cons,List.length_nil,Int.toNat_natCast,bx]
   simp[hw,nth,hy,aG,ei]
 ·simp only[f41,uH,List.length_cons,List.length_nil,Int.toNat_natCast,bx]
  simp[nth,hx,aG,ei]
theorem ui(a b:aM):f21 a b=some (uh a b):=by
 simp only[f21,Gk,Option.bind_some,Gl,uh]
def qE(day:Int)(s:aM×Bool)(f:aM):aM×Bool:=
 if f.2.2.1.1≤day∧day<f.2.2.1.2.1∧(s.2=false∨uh s.1 f≤0) then(f,true) else s
def dD(k:aW)(known:Int)(f:aM):Bool:=aO bC f.1 k&&decide (f.2.2.2.1≤known)
def gk(k:aW)(day known:Int)(l:List aM)(s:aM×Bool):aM×Bool:=(l.filter (dD k known)).foldl (qE day) s
def zF:aM:=(((0:Int),((0:Int),((0:Int),()))),((0:Int),(((0:Int),((0:Int),())),((0:Int),((0:Int),())))))
def sj(l:List aM)(k:aW)(day known:Int):Int×Bool:=
 let s:=gk k day known l (zF,false)
 if s.2=true∧0≤s.1.2.1 then(s.1.2.1,true) else(0,false)
theorem Im(y:YC)(f:aM)(day:Int)(s:aM×Bool):
 qO y f y 0 (y.gs 1) day (y.gs 2) s.1 (y.gs 3) s.2=some (true,y,0,y.gs 1,day,y.gs 2,(qE day s f).1,y.gs 3,(qE day s f).2):=by
 unfold qO
 rw[dP]
 simp only[if_true,ui,Option.bind_some]
 unfold qE
 obtain⟨s1,s2⟩:=s
 by_cases h1:f.2.2.1.1≤day<;>by_cases h2:day<f.2.2.1.2.1<;>cases s2<;>by_cases h3:uh s1 f≤0<;>simp[h1,h2,h3,Nat.beq]
theorem Io(y:YC)(l:List aM)(k:aW)(day known:Int)(x:List aM)(hl:l.length≤aF):
 ∀(n i:Nat)(s:aM×Bool),i≤l.length→l.length -i<n→
  ll y.l (fun d=>qO y d.1 d.2.1 d.2.2.1 d.2.2.2.1 d.2.2.2.2.1 d.2.2.2.2.2.1 d.2.2.2.2.2.2.1 d.2.2.2.2.2.2.2.1 d.2.2.2.2.2.2.2.2.1) n
   (y.l,l,(l.length:Int),(i:Int),y,0,y.gs 1,day,y.gs 2,s.1,y.gs 3,s.2,x,k,known)=
  some (.brk (y,0,y.gs 1,day,y.gs 2,(gk k day known (l.drop i) s).1,y.gs 3,(gk k day known (l.drop i) s).2,x,k,known)):=by
 intro n
 induction n with
 |zero=>intro i s _ h;omega
 |
  succ n ih=>
  intro i s hi hn
  have key:=fun s(h:i<l.length)=>ih (i+1) s (by omega) (by omega)
  unfold ll at key ⊢
  rw[bx]
  generalize aL _ n=rec at key ⊢
  by_cases h:i<l.length
  ·have hd:l.drop i=l[i]::l.drop (i+1):=List.drop_eq_getElem_cons h
   have hw:bM ((i:Int)+1)=((i+1:Nat):Int):=eB (by have:aF=140737488355328:=rfl;omega)
   have Ru:(i:Int)<(l.length:Int):=by omega
   simp only[decide_eq_true Ru,if_true,if_pos (Int.natCast_nonneg i),if_pos Ru,ml (t:=aP) h,hw]
   have key:=fun s=>key s h
   by_cases h1:aO bC l[i].1 k=true
   ·by_cases h2:l[i].2.2.2.1≤known
    ·rw[if_pos h1,if_pos (decide_eq_true h2),Im,Option.bind_some]
     simp only[Bool.not_true,Bool.false_eq_true,if_false]
     rw[key,hd]
     simp only[gk,List.filter_cons,dD,h1,decide_eq_true h2,Bool.and_self,if_true,List.foldl_cons]
    ·rw[if_pos h1,if_neg (by simpa using h2),key,hd]
     simp only[gk,List.filter_cons,dD,h1,decide_eq_false h2,Bool.and_false,Bool.false_eq_true,if_false]
   ·rw[if_neg h1,key,hd]
    simp only[gk,List.filter_cons,dD,h1,Bool.false_and,Bool.false_eq_true,if_false]
  ·have:i=l.length:=by omega
   subst this
   simp only[Int.lt_irrefl,decide_false,Bool.false_eq_true,if_false,List.drop_length]
   rfl
def zi(l:List aM)(k:aW)(day known:Int):Option (Int×Bool):=if l.length≤aF then some (sj l k day known) else none
theorem Gm(l:List aM)(k:aW)(day known:Int)(hl:l.length≤aF):f27 l k day known=some (sj l k day known):=by
 unfold f27
 simp only[nP,Option.bind_some]
 rw[kQ (r:=.brk (gk k day known l (zF,false)))]
 ·rw[aR]
  unfold sj
  generalize gk k day known l (zF,false)=s
  obtain⟨s1,s2⟩:=s
  cases s2
  ·simp
  ·by_cases h:s1.2.1<0
   ·have:¬(0≤s1.2.1):=by omega
    simp[h,this]
   ·have:0≤s1.2.1:=by omega
    simp[h,this]
 ·intro y
  have h:=Io y l k day known l hl (Int.toNat (l.length:Int)+1) 0 (zF,false) (by omega) (by simp)
  unfold uI
  have h':=h
  simp only[zF] at h'
  erw[h']
  rw[aR]
  simp only[Option.bind_some,dP,if_true,List.drop_zero,zF]
def Ip:aH:=aB G [.tmp 8,.tmp 9] 27 [(.val (.slice 64 aP)),(.val bC),(.val (.int .i64)),(.val (.int .i64))] [] 90 OQ [] (.bE (fun d=>zi d.1 d.2.1 d.2.2.1 d.2.2.2.1))
theorem Lb:Ip.holds Tryz.prog gl:=aH.sub Ra fun d r h=>by
 have h:zi d.1 d.2.1 d.2.2.1 d.2.2.2.1=some r:=h
 unfold zi at h
 split at h
 ·rename_i hl;rw[←h];exact Gm _ _ _ _ hl
 ·cases h
end Go.Proofs.YtadeibjelmcdgaaGreat
