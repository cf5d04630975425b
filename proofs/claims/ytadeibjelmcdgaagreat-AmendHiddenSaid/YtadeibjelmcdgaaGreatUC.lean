/- The facts of a key that are known at a time, collected, in place of the printed function. No condition. -/
import Derived.Test.YtadeibjelmcdgaaGreatFC
noncomputable section
namespace Go.Proofs.YtadeibjelmcdgaaGreat
open Go.Ax
theorem CN(y:YC)(x:aM)(acc:List aM)(h:(acc.length+1)*64≤aF):gX y x y 0 (y.gs 1) acc=some (true,y,0,y.gs 1,acc++[x]):=by
 unfold gX
 rw[dP]
 simp only[if_true,List.length_cons,List.length_nil,Nat.zero_add,if_pos h,Option.bind_some,Nat.beq]
theorem CO(y:YC)(l:List aM)(k:aW)(known:Int)(hl:l.length*64≤aF):
 ∀(n i:Nat)(acc:List aM),i≤l.length→l.length -i<n→acc.length≤i→
  lg y.l (fun d=>gX y d.1 d.2.1 d.2.2.1 d.2.2.2.1 d.2.2.2.2.1) n (y.l,k,known,l,(l.length:Int),(i:Int),y,0,y.gs 1,acc)=
  some (.brk (y,0,y.gs 1,acc++(l.drop i).filter (dD k known))):=by
 have hm:aF=140737488355328:=rfl
 intro n
 induction n with
 |zero=>intro i acc _ h;omega
 |
  succ n ih=>
  intro i acc hi hn ha
  have key:=fun acc(h:i<l.length)(ha:acc.length≤i+1)=>ih (i+1) acc (by omega) (by omega) ha
  unfold lg at key ⊢
  rw[bx]
  generalize aL _ n=rec at key ⊢
  by_cases h:i<l.length
  ·have hd:l.drop i=l[i]::l.drop (i+1):=List.drop_eq_getElem_cons h
   have hw:bM ((i:Int)+1)=((i+1:Nat):Int):=eB (by omega)
   have Ru:(i:Int)<(l.length:Int):=by omega
   simp only[decide_eq_true Ru,if_true,if_pos (Int.natCast_nonneg i),if_pos Ru,ml (t:=aP) h,hw]
   by_cases h1:aO bC l[i].1 k=true
   ·by_cases h2:l[i].2.2.2.1≤known
    ·rw[if_pos h1,if_pos (decide_eq_true h2),CN y _ _ (by omega),Option.bind_some]
     simp only[Bool.not_true,Bool.false_eq_true,if_false]
     rw[key _ h (by simp;omega),hd]
     simp only[List.filter_cons,dD,h1,decide_eq_true h2,Bool.and_self,if_true,List.append_assoc,List.singleton_append]
    ·rw[if_pos h1,if_neg (by simpa using h2),key _ h (by omega),hd]
     simp only[List.filter_cons,dD,h1,decide_eq_false h2,Bool.and_false,Bool.false_eq_true,if_false]
   ·rw[if_neg h1,key _ h (by omega),hd]
    simp only[List.filter_cons,dD,h1,Bool.false_and,Bool.false_eq_true,if_false]
  ·have:i=l.length:=by omega
   subst this
   simp only[Int.lt_irrefl,decide_false,Bool.false_eq_true,if_false,List.drop_length,List.filter_nil,List.append_nil]
def gr(l:List aM)(k:aW)(known:Int):Option (List aM):=if l.length*64≤aF then some (l.filter (dD k known)) else none
theorem CP{l:List aM}{k:aW}{known:Int}{r:List aM}(h:gr l k known=some r):qc l k known=some r:=by
 unfold gr at h
 split at h
 ·rename_i hl
  cases h
  unfold qc qb
  rw[kQ (r:=.brk (l.filter (dD k known)))]
  ·rfl
  ·intro y
   have h:=CO y l k known hl (Int.toNat (l.length:Int)+1) 0 [] (by omega) (by simp) (by simp)
   unfold tA
   erw[h]
   rw[aR]
   simp only[Option.bind_some,dP,if_true,List.drop_zero,List.nil_append]
 ·cases h
def rB:aH:=aB G [.tmp 2] 105 [(.func 69 .nil (.cons (.aZ (.slice 64 aP)) (.cons (.aZ bC) (.cons (.aZ (.int .i64)) .nil))))] [] 45 HD [] (.bE (fun d=>gr d.1 d.2.1 d.2.2.1))
theorem zR:rB.holds Tryz.prog gl:=aH.sub CZ fun _ _ h=>CP h
end Go.Proofs.YtadeibjelmcdgaaGreat
