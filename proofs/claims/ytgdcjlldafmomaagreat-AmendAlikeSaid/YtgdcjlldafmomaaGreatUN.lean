/- part -/
import Derived.Test.YtgdcjlldafmomaaGreatF8
import Derived.Test.YtgdcjlldafmomaaGreatA5
noncomputable section
namespace Go.Proofs.YtgdcjlldafmomaaGreat
open Go.Ax
def xT(w:bO)(before after:Int):ZP→ZQ→Option ZQ
 |[],acc=>some acc
 |p::ps,acc=>Option.bind (f8 w p before) fun x=>if x.1=false then xT w before after ps acc else
  Option.bind (f21 w p after) fun z=>if z.2.2=false∨0<z.1.length then(if(acc.length+1)*40≤aE then xT w before after ps (acc++[(p.1,(p.2.1,(z.1,())))]) else none) else xT w before after ps acc
theorem Kt(y:YC)(p:mX)(c:Ze)(acc:ZQ)(h:(acc.length+1)*40≤aE):
 xU y p c y 0 (y.gs 1) acc=some (true,y,0,y.gs 1,acc++[(p.1,(p.2.1,(c,())))]):=by
 unfold xU
 rw[eR]
 simp only[bC,dE,jA,cZ,aA h,aH,Nat.beq]
theorem Mi(
 y:YC) (w:bO) (l:ZP) (before after:Int) (q:ZP) (hl:l.length≤aE):
 ∀(n i:Nat)(acc r:ZQ),i≤l.length→l.length -i<n→xT w before after (l.drop i) acc=some r→
  qp y.l (fun d=>xU y d.1 d.2.1 d.2.2.1 d.2.2.2.1 d.2.2.2.2.1 d.2.2.2.2.2.1) n
   (y.l,l,(l.length:Int),(i:Int),y,0,y.gs 1,w,q,before,after,acc)=
  some (.brk (y,0,y.gs 1,w,q,before,after,r)):=by
 intro n
 induction n with
 |zero=>intro i acc r _ h;omega
 |
  succ n ih=>
  intro i acc r hi hn hr
  have key:=fun acc(h:i<l.length)=>ih (i+1) acc r (by omega) (by omega)
  unfold qp at key ⊢
  rw[aM]
  generalize aK _ n=rec at key ⊢
  by_cases h:i<l.length
  ·have hd:l.drop i=l[i]::l.drop (i+1):=jz h
   have hw:aZ ((i:Int)+1)=((i+1:Nat):Int):=bw (by have:aE=140737488355328:=rfl;omega)
   have hlt:(i:Int)<(l.length:Int):=by omega
   have key:=fun acc=>key acc h
   rw[hd] at hr
   simp only[xT] at hr
   simp only[cC hlt,bC,dQ i,aA hlt,dg (t:=ji) h,hw]
   cases h9:f8 w l[i] before with
   |none=>rw[h9] at hr;cases hr
   |
    some x=>
    rw[h9] at hr
    simp only[aH] at hr ⊢
    obtain⟨x1,x2⟩:=x
    cases x1 with
    |
     false=>
     simp only[bC] at hr
     simp only[Bool.not_false,bC]
     exact key acc hr
    |
     true=>
     simp only[Bool.true_eq_false,bP] at hr
     simp only[kA,cm,bP]
     cases h24:f21 w l[i] after with
     |none=>rw[h24] at hr;cases hr
     |
      some z=>
      rw[h24] at hr
      simp only[aH] at hr ⊢
      obtain⟨z1,z2,z3⟩:=z
      cases z3 with
      |
       false=>
       simp only[true_or,bC] at hr
       simp only[Bool.not_false,bC]
       split at hr
       ·rename_i hm
        rw[Kt y _ _ _ hm,aH]
        simp only[kA,cm,bP]
        exact key _ hr
       ·cases hr
      |
       true=>
       simp only[Bool.true_eq_false,false_or] at hr
       simp only[kA,cm,bP]
       by_cases hz:0<z1.length
       ·rw[aA hz] at hr
        have hz':(0:Int)<(z1.length:Int):=by omega
        simp only[cC hz',bC]
        split at hr
        ·rename_i hm
         rw[Kt y _ _ _ hm,aH]
         simp only[kA,cm,bP]
         exact key _ hr
        ·cases hr
       ·rw[aC hz] at hr
        have hz':¬(0:Int)<(z1.length:Int):=by omega
        simp only[dF hz',cm,bP]
        exact key _ hr
  ·have:i=l.length:=by omega
   subst this
   simp only[List.drop_length,xT,cE] at hr
   subst hr
   simp only[Int.lt_irrefl,decide_false,cm,bP]
def zD(w:bO)(l:ZP)(before after:Int):Option ZQ:=if l.length≤aE then xT w before after l [] else none
theorem Mj{w:bO}{l:ZP}{before after:Int}{r:ZQ}(h:zD w l before after=some r):f13 w l before after=some r:=by
 unfold zD at h
 split at h
 ·rename_i hl
  unfold f13
  simp only[BB,aH]
  rw[mK (r:=.brk r)]
  ·rw[aI]
  ·intro y
   have h:=Mi y w l before after l hl (Int.toNat (l.length:Int)+1) 0 [] r (by omega) (by simp) (by simpa using h)
   unfold BC
   erw[h]
   rw[aI]
   simp only[aH,eR,bC]
 ·cases h
def Wx:aW:=aF G [.cell 8 48] 13 [(.val fp),(.val (.slice 104 ji)),vI,vI] [] 68 OV [] (.bH (u4 zD))
theorem OP:hS Wx:=aW.sub x13 fun _ _ h=>Mj h
end Go.Proofs.YtgdcjlldafmomaaGreat
