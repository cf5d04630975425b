/- The facts of a key that are known at a time, collected, in place of the printed function. No condition. -/
import Derived.Test.YtgdcjlldafmomaaGreatFA
import Derived.Test.YtgdcjlldafmomaaGreatA5
noncomputable section
namespace Go.Proofs.YtgdcjlldafmomaaGreat
open Go.Ax
theorem Hy(y:YC)(x:ef)(acc:Zl)(h:(acc.length+1)*64≤aC):kV y x y 0 (y.gs 1) acc=some (true,y,0,y.gs 1,acc++[x]):=by
 unfold kV
 rw[dK]
 simp only[if_true,List.length_cons,List.length_nil,Nat.zero_add,if_pos h,Option.bind_some,Nat.beq]
theorem Hz(y:YC)(l:Zl)(k:fQ)(known:Int)(hl:l.length*64≤aC):
 ∀(n i:Nat)(acc:Zl),i≤l.length→l.length -i<n→acc.length≤i→
  nJ y.l (fun d=>kV y d.1 d.2.1 d.2.2.1 d.2.2.2.1 d.2.2.2.2.1) n (y.l,k,known,l,(l.length:Int),(i:Int),y,0,y.gs 1,acc)=
  some (.brk (y,0,y.gs 1,acc++(l.drop i).filter (fY k known))):=by
 have hm:aC=140737488355328:=rfl
 intro n
 induction n with
 |zero=>intro i acc _ h;omega
 |
  succ n ih=>
  intro i acc hi hn ha
  have key:=fun acc(h:i<l.length)(ha:acc.length≤i+1)=>ih (i+1) acc (by omega) (by omega) ha
  unfold nJ at key ⊢
  rw[aP]
  generalize aH _ n=rec at key ⊢
  by_cases h:i<l.length
  ·have hd:l.drop i=l[i]::l.drop (i+1):=List.drop_eq_getElem_cons h
   have hw:aV ((i:Int)+1)=((i+1:Nat):Int):=aJ (by omega)
   have hlt:(i:Int)<(l.length:Int):=by omega
   simp only[decide_eq_true hlt,if_true,if_pos (Int.natCast_nonneg i),if_pos hlt,db (t:=aR) h,hw]
   by_cases h1:aU bE l[i].1 k=true
   ·by_cases h2:l[i].2.2.2.1≤known
    ·rw[if_pos h1,if_pos (decide_eq_true h2),Hy y _ _ (by omega),Option.bind_some]
     simp only[Bool.not_true,Bool.false_eq_true,if_false]
     rw[key _ h (by simp;omega),hd]
     simp only[List.filter_cons,fY,h1,decide_eq_true h2,Bool.and_self,if_true,List.append_assoc,List.singleton_append]
    ·rw[if_pos h1,if_neg (by simpa using h2),key _ h (by omega),hd]
     simp only[List.filter_cons,fY,h1,decide_eq_false h2,Bool.and_false,Bool.false_eq_true,if_false]
   ·rw[if_neg h1,key _ h (by omega),hd]
    simp only[List.filter_cons,fY,h1,Bool.false_and,Bool.false_eq_true,if_false]
  ·have:i=l.length:=by omega
   subst this
   simp only[Int.lt_irrefl,decide_false,Bool.false_eq_true,if_false,List.drop_length,List.filter_nil,List.append_nil]
def kR(l:Zl)(k:fQ)(known:Int):Option Zl:=if l.length*64≤aC then some (l.filter (fY k known)) else none
theorem J0{l:Zl}{k:fQ}{known:Int}{r:Zl}(h:kR l k known=some r):zz l k known=some r:=by
 unfold kR at h
 split at h
 ·rename_i hl
  cases h
  unfold zz zx
  rw[kE (r:=.brk (l.filter (fY k known)))]
  ·rfl
  ·intro y
   have h:=Hz y l k known hl (Int.toNat (l.length:Int)+1) 0 [] (by omega) (by simp) (by simp)
   unfold zv
   erw[h]
   rw[aG]
   simp only[Option.bind_some,dK,if_true,List.drop_zero,List.nil_append]
 ·cases h
def HA:aT:=aD G [.tmp 2] 40 [(.func 68 .nil (.cons (.bD (.slice 64 aR)) (.cons (.bD bE) (.cons (.bD (.int .i64)) .nil))))] [] 45 Nf [] (.bx (u3 kR))
theorem HC:hS HA:=aT.sub KU fun _ _ h=>J0 h
end Go.Proofs.YtgdcjlldafmomaaGreat
