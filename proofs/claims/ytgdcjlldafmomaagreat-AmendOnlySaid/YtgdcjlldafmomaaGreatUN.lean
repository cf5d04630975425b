/- What is announced, in plain words, in place of the printed function. No condition. -/
import Derived.Test.YtgdcjlldafmomaaGreatF8
import Derived.Test.YtgdcjlldafmomaaGreatA5
noncomputable section
namespace Go.Proofs.YtgdcjlldafmomaaGreat
open Go.Ax
def vq(w:bL)(before after:Int):ZC→ZD→Option ZD
 |[],acc=>some acc
 |p::ps,acc=>Option.bind (f8 w p before) fun x=>if x.1=false then vq w before after ps acc else
  Option.bind (f21 w p after) fun z=>if z.2.2=false∨0<z.1.length then(if(acc.length+1)*40≤aC then vq w before after ps (acc++[(p.1,(p.2.1,(z.1,())))]) else none) else vq w before after ps acc
theorem IQ(y:YC)(p:jJ)(c:Zf)(acc:ZD)(h:(acc.length+1)*40≤aC):
 vr y p c y 0 (y.gs 1) acc=some (true,y,0,y.gs 1,acc++[(p.1,(p.2.1,(c,())))]):=by
 unfold vr
 rw[dK]
 simp only[if_true,List.length_cons,List.length_nil,Nat.zero_add,if_pos h,Option.bind_some,Nat.beq]
theorem KA(
 y:YC) (w:bL) (l:ZC) (before after:Int) (q:ZC) (hl:l.length≤aC):
 ∀(n i:Nat)(acc r:ZD),i≤l.length→l.length -i<n→vq w before after (l.drop i) acc=some r→
  nK y.l (fun d=>vr y d.1 d.2.1 d.2.2.1 d.2.2.2.1 d.2.2.2.2.1 d.2.2.2.2.2.1) n
   (y.l,l,(l.length:Int),(i:Int),y,0,y.gs 1,w,q,before,after,acc)=
  some (.brk (y,0,y.gs 1,w,q,before,after,r)):=by
 intro n
 induction n with
 |zero=>intro i acc r _ h;omega
 |
  succ n ih=>
  intro i acc r hi hn hr
  have key:=fun acc(h:i<l.length)=>ih (i+1) acc r (by omega) (by omega)
  unfold nK at key ⊢
  rw[aP]
  generalize aH _ n=rec at key ⊢
  by_cases h:i<l.length
  ·have hd:l.drop i=l[i]::l.drop (i+1):=List.drop_eq_getElem_cons h
   have hw:aV ((i:Int)+1)=((i+1:Nat):Int):=aJ (by have:aC=140737488355328:=rfl;omega)
   have hlt:(i:Int)<(l.length:Int):=by omega
   have key:=fun acc=>key acc h
   rw[hd] at hr
   simp only[vq] at hr
   simp only[decide_eq_true hlt,if_true,if_pos (Int.natCast_nonneg i),if_pos hlt,db (t:=fg) h,hw]
   cases h9:f8 w l[i] before with
   |none=>rw[h9] at hr;cases hr
   |
    some x=>
    rw[h9] at hr
    simp only[Option.bind_some] at hr ⊢
    obtain⟨x1,x2⟩:=x
    cases x1 with
    |
     false=>
     simp only[if_true] at hr
     simp only[Bool.not_false,if_true]
     exact key acc hr
    |
     true=>
     simp only[Bool.true_eq_false,if_false] at hr
     simp only[Bool.not_true,Bool.false_eq_true,if_false]
     cases h24:f21 w l[i] after with
     |none=>rw[h24] at hr;cases hr
     |
      some z=>
      rw[h24] at hr
      simp only[Option.bind_some] at hr ⊢
      obtain⟨z1,z2,z3⟩:=z
      cases z3 with
      |
       false=>
       simp only[true_or,if_true] at hr
       simp only[Bool.not_false,if_true]
       split at hr
       ·rename_i hm
        rw[IQ y _ _ _ hm,Option.bind_some]
        simp only[Bool.not_true,Bool.false_eq_true,if_false]
        exact key _ hr
       ·cases hr
      |
       true=>
       simp only[Bool.true_eq_false,false_or] at hr
       simp only[Bool.not_true,Bool.false_eq_true,if_false]
       by_cases hz:0<z1.length
       ·rw[if_pos hz] at hr
        have hz':(0:Int)<(z1.length:Int):=by omega
        simp only[decide_eq_true hz',if_true]
        split at hr
        ·rename_i hm
         rw[IQ y _ _ _ hm,Option.bind_some]
         simp only[Bool.not_true,Bool.false_eq_true,if_false]
         exact key _ hr
        ·cases hr
       ·rw[if_neg hz] at hr
        have hz':¬(0:Int)<(z1.length:Int):=by omega
        simp only[decide_eq_false hz',Bool.false_eq_true,if_false]
        exact key _ hr
  ·have:i=l.length:=by omega
   subst this
   simp only[List.drop_length,vq,Option.some.injEq] at hr
   subst hr
   simp only[Int.lt_irrefl,decide_false,Bool.false_eq_true,if_false]
def xl(w:bL)(l:ZC)(before after:Int):Option ZD:=if l.length≤aC then vq w before after l [] else none
theorem KB{w:bL}{l:ZC}{before after:Int}{r:ZD}(h:xl w l before after=some r):f13 w l before after=some r:=by
 unfold xl at h
 split at h
 ·rename_i hl
  unfold f13
  simp only[zA,Option.bind_some]
  rw[kE (r:=.brk r)]
  ·rw[aG]
  ·intro y
   have h:=KA y w l before after l hl (Int.toNat (l.length:Int)+1) 0 [] r (by omega) (by simp) (by simpa using h)
   unfold zB
   erw[h]
   rw[aG]
   simp only[Option.bind_some,dK,if_true]
 ·cases h
def UW:aT:=aD G [.cell 8 48] 13 [(.val dF),(.val (.slice 104 fg)),vI,vI] [] 68 Ng [] (.bx (u4 xl))
theorem M9:hS UW:=aT.sub Z6 fun _ _ h=>KB h
end Go.Proofs.YtgdcjlldafmomaaGreat
