/- part -/
import Derived.Test.YtkhfnbfpgcjllaaGreatDoorFT
import Derived.Test.YtkhfnbfpgcjllaaGreatDoorA5
noncomputable section
namespace Go.Proofs.YtkhfnbfpgcjllaaGreatDoor
open Go.Ax
theorem qH(y:YC)(x:iL)(acc:Zh)(h:(acc.length+1)*64≤aF):fH y x y 0 (y.gs 1) acc=some (true,y,0,y.gs 1,acc++[x]):=by
 unfold fH
 rw[gw]
 simp only[cC,da,fO,ek,aA h,aD,Nat.beq]
theorem qI(y:YC)(l:Zh)(k:hJ)(known:Int)(hl:l.length*64≤aF):
 ∀(n i:Nat)(acc:Zh),i≤l.length→l.length -i<n→acc.length≤i→
  i3 y.l (fun d=>fH y d.1 d.2.1 d.2.2.1 d.2.2.2.1 d.2.2.2.2.1) n (y.l,k,known,l,(l.length:Int),(i:Int),y,0,y.gs 1,acc)=
  some (.aS (y,0,y.gs 1,acc++(l.drop i).filter (cL k known))):=by
 have hm:aF=140737488355328:=rfl
 intro n
 induction n with
 |zero=>intro i acc _ h;omega
 |
  succ n ih=>
  intro i acc hi hn ha
  have key:=fun acc(h:i<l.length)(ha:acc.length≤i+1)=>ih (i+1) acc (by omega) (by omega) ha
  unfold i3 at key ⊢
  rw[aK]
  generalize aL _ n=rec at key ⊢
  by_cases h:i<l.length
  ·have hd:l.drop i=l[i]::l.drop (i+1):=iA h
   have hw:aQ ((i:Int)+1)=((i+1:Nat):Int):=bU (by omega)
   have hlt:(i:Int)<(l.length:Int):=by omega
   simp only[bR hlt,cC,dK i,aA hlt,cJ (t:=aN) h,hw]
   by_cases h1:bM aR l[i].1 k=true
   ·by_cases h2:l[i].2.2.2.1≤known
    ·rw[aA h1,cq h2,qH y _ _ (by omega),aD]
     simp only[tC,dv,dc]
     rw[key _ h (by simp;omega),hd]
     simp only[jC,cL,h1,bR h2,Bool.and_self,cC,iH,List.singleton_append]
    ·rw[aA h1,aB (by simpa using h2),key _ h (by omega),hd]
     simp only[jC,cL,h1,cD h2,Bool.and_false,dv,dc]
   ·rw[aB h1,key _ h (by omega),hd]
    simp only[jC,cL,h1,Bool.false_and,dv,dc]
  ·have:i=l.length:=by omega
   subst this
   simp only[Int.lt_irrefl,decide_false,dv,dc,List.drop_length,List.filter_nil,cw]
def fW(l:Zh)(k:hJ)(known:Int):Option Zh:=if l.length*64≤aF then some (l.filter (cL k known)) else none
theorem uA{l:Zh}{k:hJ}{known:Int}{r:Zh}(h:fW l k known=some r):py l k known=some r:=by
 unfold fW at h
 split at h
 ·rename_i hl
  cases h
  unfold py sM
  rw[oz (r:=.aS (l.filter (cL k known)))]
  ·rfl
  ·intro y
   have h:=qI y l k known hl (Int.toNat (l.length:Int)+1) 0 [] (by omega) (by simp) (by simp)
   unfold sL
   erw[h]
   rw[aC]
   simp only[aD,gw,cC,fN,jW]
 ·cases h
def yP:bH:=aI G [.tmp 2] 67 [(.func 107 .nil (.cons (.dk (.slice 64 aN)) (.cons (.dk aR) (.cons (.dk (.int .i64)) .nil))))] [] 45 YJ [] (.bZ (u3 fW))
theorem yI:hS yP:=bH.sub Cy fun _ _ h=>uA h
end Go.Proofs.YtkhfnbfpgcjllaaGreatDoor
