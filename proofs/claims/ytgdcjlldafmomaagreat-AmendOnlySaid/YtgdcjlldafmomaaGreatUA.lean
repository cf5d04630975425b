/- The value of a key on a day, in plain words, in place of the printed function. No condition. -/
import Derived.Test.YtgdcjlldafmomaaGreatF5
import Derived.Test.YtgdcjlldafmomaaGreatA5
noncomputable section
namespace Go.Proofs.YtgdcjlldafmomaaGreat
open Go.Ax
def Ef(a b:Int):Int:=if a<b then-1 else if b<a then 1 else 0
theorem Kq(a b:Int):f70 a b=some (Ef a b):=by
 simp only[f70,f110,Ef]
 by_cases h:a<b
 ·simp[h]
 ·by_cases h2:b<a<;>simp[h,h2]
def HT(a b:ef):Int:=if Ef a.2.2.2.1 b.2.2.2.1=0 then Ef a.2.2.2.2.1 b.2.2.2.2.1 else Ef a.2.2.2.1 b.2.2.2.1
theorem Kr(x y:Int):f69 [x,y]=some (if x=0 then y else x):=by
 by_cases hx:x=0
 ·subst hx
  by_cases hy:y=0
  ·subst hy;rfl
  ·have hw:aV 1=1:=rfl
   simp only[f69,zm,List.length_cons,List.length_nil,Int.toNat_natCast,aP]
   simp[hw,nth,hy,aE,bP]
 ·simp only[f69,zm,List.length_cons,List.length_nil,Int.toNat_natCast,aP]
  simp[nth,hx,aE,bP]
theorem Ks(a b:ef):f42 a b=some (HT a b):=by
 simp only[f42,Kq,Option.bind_some,Kr,HT]
def ku(day:Int)(s:ef×Bool)(f:ef):ef×Bool:=
 if f.2.2.1.1≤day∧day<f.2.2.1.2.1∧(s.2=false∨HT s.1 f≤0) then(f,true) else s
def fY(k:fQ)(known:Int)(f:ef):Bool:=aU bE f.1 k&&decide (f.2.2.2.1≤known)
def ju(k:fQ)(day known:Int)(l:Zl)(s:ef×Bool):ef×Bool:=(l.filter (fY k known)).foldl (ku day) s
def zF:ef:=(((0:Int),((0:Int),((0:Int),()))),((0:Int),(((0:Int),((0:Int),())),((0:Int),((0:Int),())))))
def Lc(l:Zl)(k:fQ)(day known:Int):Int×Bool:=
 let s:=ju k day known l (zF,false)
 if s.2=true∧0≤s.1.2.1 then(s.1.2.1,true) else(0,false)
theorem M5(y:YC)(f:ef)(day:Int)(s:ef×Bool):
 vo y f y 0 (y.gs 1) day (y.gs 2) s.1 (y.gs 3) s.2=some (true,y,0,y.gs 1,day,y.gs 2,(ku day s f).1,y.gs 3,(ku day s f).2):=by
 unfold vo
 rw[dK]
 simp only[if_true,Ks,Option.bind_some]
 unfold ku
 obtain⟨s1,s2⟩:=s
 by_cases h1:f.2.2.1.1≤day<;>by_cases h2:day<f.2.2.1.2.1<;>cases s2<;>by_cases h3:HT s1 f≤0<;>simp[h1,h2,h3,Nat.beq]
theorem M6(y:YC)(l:Zl)(k:fQ)(day known:Int)(x:Zl)(hl:l.length≤aC):
 ∀(n i:Nat)(s:ef×Bool),i≤l.length→l.length -i<n→
  nH y.l (fun d=>vo y d.1 d.2.1 d.2.2.1 d.2.2.2.1 d.2.2.2.2.1 d.2.2.2.2.2.1 d.2.2.2.2.2.2.1 d.2.2.2.2.2.2.2.1 d.2.2.2.2.2.2.2.2.1) n
   (y.l,l,(l.length:Int),(i:Int),y,0,y.gs 1,day,y.gs 2,s.1,y.gs 3,s.2,x,k,known)=
  some (.brk (y,0,y.gs 1,day,y.gs 2,(ju k day known (l.drop i) s).1,y.gs 3,(ju k day known (l.drop i) s).2,x,k,known)):=by
 intro n
 induction n with
 |zero=>intro i s _ h;omega
 |
  succ n ih=>
  intro i s hi hn
  have key:=fun s(h:i<l.length)=>ih (i+1) s (by omega) (by omega)
  unfold nH at key ⊢
  rw[aP]
  generalize aH _ n=rec at key ⊢
  by_cases h:i<l.length
  ·have hd:l.drop i=l[i]::l.drop (i+1):=List.drop_eq_getElem_cons h
   have hw:aV ((i:Int)+1)=((i+1:Nat):Int):=aJ (by have:aC=140737488355328:=rfl;omega)
   have hlt:(i:Int)<(l.length:Int):=by omega
   simp only[decide_eq_true hlt,if_true,if_pos (Int.natCast_nonneg i),if_pos hlt,db (t:=aR) h,hw]
   have key:=fun s=>key s h
   by_cases h1:aU bE l[i].1 k=true
   ·by_cases h2:l[i].2.2.2.1≤known
    ·rw[if_pos h1,if_pos (decide_eq_true h2),M5,Option.bind_some]
     simp only[Bool.not_true,Bool.false_eq_true,if_false]
     rw[key,hd]
     simp only[ju,List.filter_cons,fY,h1,decide_eq_true h2,Bool.and_self,if_true,List.foldl_cons]
    ·rw[if_pos h1,if_neg (by simpa using h2),key,hd]
     simp only[ju,List.filter_cons,fY,h1,decide_eq_false h2,Bool.and_false,Bool.false_eq_true,if_false]
   ·rw[if_neg h1,key,hd]
    simp only[ju,List.filter_cons,fY,h1,Bool.false_and,Bool.false_eq_true,if_false]
  ·have:i=l.length:=by omega
   subst this
   simp only[Int.lt_irrefl,decide_false,Bool.false_eq_true,if_false,List.drop_length]
   rfl
def zt(l:Zl)(k:fQ)(day known:Int):Option (Int×Bool):=if l.length≤aC then some (Lc l k day known) else none
theorem Kt(l:Zl)(k:fQ)(day known:Int)(hl:l.length≤aC):f53 l k day known=some (Lc l k day known):=by
 unfold f53
 simp only[rq,Option.bind_some]
 rw[kE (r:=.brk (ju k day known l (zF,false)))]
 ·rw[aG]
  unfold Lc
  generalize ju k day known l (zF,false)=s
  obtain⟨s1,s2⟩:=s
  cases s2
  ·simp
  ·by_cases h:s1.2.1<0
   ·have:¬(0≤s1.2.1):=by omega
    simp[h,this]
   ·have:0≤s1.2.1:=by omega
    simp[h,this]
 ·intro y
  have h:=M6 y l k day known l hl (Int.toNat (l.length:Int)+1) 0 (zF,false) (by omega) (by simp)
  unfold zn
  have h':=h
  simp only[zF] at h'
  erw[h']
  rw[aG]
  simp only[Option.bind_some,dK,if_true,List.drop_zero,zF]
def Ut:aT:=aD G [.tmp 8,.tmp 9] 53 [(.val (.slice 64 aR)),(.val bE),vI,vI] [] 90 MQ [] (.bx (u4 zt))
theorem Uu:hS Ut:=aT.sub YX fun d r h=>by
 have h:zt d.1 d.2.1 d.2.2.1 d.2.2.2.1=some r:=h
 unfold zt at h
 split at h
 ·rename_i hl;rw[←h];exact Kt _ _ _ _ hl
 ·cases h
end Go.Proofs.YtgdcjlldafmomaaGreat
