/- part -/
import Derived.Test.YtgdcjlldafmomaaGreatF2
import Derived.Test.YtgdcjlldafmomaaGreatA5
noncomputable section
namespace Go.Proofs.YtgdcjlldafmomaaGreat
open Go.Ax
def BZ(w:bT)(before after:Int):List tS→xx→Option xx
 |[],acc=>some acc
 |p::ps,acc=>Option.bind (f8 w p before) fun x=>if x.1=false then BZ w before after ps acc else
  Option.bind (f21 w p after) fun z=>if z.2.2=false∨0<z.1.length then(if(acc.length+1)*40≤aE then BZ w before after ps (acc++[(p.1,(p.2.1,(z.1,())))]) else none) else BZ w before after ps acc
theorem Lh(y:YC)(p:tS)(c:Ze)(acc:xx)(h:(acc.length+1)*40≤aE):
 xA y p c y 0 (y.gs 1) acc=some (true,y,0,y.gs 1,acc++[(p.1,(p.2.1,(c,())))]):=by
 unfold xA
 rw[eP]
 simp only[bH,dH,jK,dN,aA h,aJ,Nat.beq]
theorem M8(
 y:YC) (w:bT) (l:List tS) (before after:Int) (q:List tS) (hl:l.length≤aE):
 ∀(n i:Nat)(acc r:xx),i≤l.length→l.length -i<n→BZ w before after (l.drop i) acc=some r→
  qg y.l (fun d=>xA y d.1 d.2.1 d.2.2.1 d.2.2.2.1 d.2.2.2.2.1 d.2.2.2.2.2.1) n
   (y.l,l,(l.length:Int),(i:Int),y,0,y.gs 1,w,q,before,after,acc)=
  some (.brk (y,0,y.gs 1,w,q,before,after,r)):=by
 intro n
 induction n with
 |zero=>intro i acc r _ h;omega
 |
  succ n ih=>
  intro i acc r hi hn hr
  have key:=fun acc(h:i<l.length)=>ih (i+1) acc r (by omega) (by omega)
  unfold qg at key ⊢
  rw[aM]
  generalize aK _ n=rec at key ⊢
  by_cases h:i<l.length
  ·have hd:l.drop i=l[i]::l.drop (i+1):=jj h
   have hw:aZ ((i:Int)+1)=((i+1:Nat):Int):=bu (by have:aE=140737488355328:=rfl;omega)
   have hlt:(i:Int)<(l.length:Int):=by omega
   have key:=fun acc=>key acc h
   rw[hd] at hr
   simp only[BZ] at hr
   simp only[cu hlt,bH,ei i,aA hlt,cT (t:=lF) h,hw]
   cases h9:f8 w l[i] before with
   |none=>rw[h9] at hr;cases hr
   |
    some x=>
    rw[h9] at hr
    simp only[aJ] at hr ⊢
    obtain⟨x1,x2⟩:=x
    cases x1 with
    |
     false=>
     simp only[bH] at hr
     simp only[Bool.not_false,bH]
     exact key acc hr
    |
     true=>
     simp only[Bool.true_eq_false,bY] at hr
     simp only[oq,cJ,bY]
     cases h24:f21 w l[i] after with
     |none=>rw[h24] at hr;cases hr
     |
      some z=>
      rw[h24] at hr
      simp only[aJ] at hr ⊢
      obtain⟨z1,z2,z3⟩:=z
      cases z3 with
      |
       false=>
       simp only[true_or,bH] at hr
       simp only[Bool.not_false,bH]
       split at hr
       ·rename_i hm
        rw[Lh y _ _ _ hm,aJ]
        simp only[oq,cJ,bY]
        exact key _ hr
       ·cases hr
      |
       true=>
       simp only[Bool.true_eq_false,false_or] at hr
       simp only[oq,cJ,bY]
       by_cases hz:0<z1.length
       ·rw[aA hz] at hr
        have hz':(0:Int)<(z1.length:Int):=by omega
        simp only[cu hz',bH]
        split at hr
        ·rename_i hm
         rw[Lh y _ _ _ hm,aJ]
         simp only[oq,cJ,bY]
         exact key _ hr
        ·cases hr
       ·rw[aC hz] at hr
        have hz':¬(0:Int)<(z1.length:Int):=by omega
        simp only[dz hz',cJ,bY]
        exact key _ hr
  ·have:i=l.length:=by omega
   subst this
   simp only[List.drop_length,BZ,cX] at hr
   subst hr
   simp only[Int.lt_irrefl,decide_false,cJ,bY]
def GM(w:bT)(l:List tS)(before after:Int):Option xx:=if l.length≤aE then BZ w before after l [] else none
theorem M9{w:bT}{l:List tS}{before after:Int}{r:xx}(h:GM w l before after=some r):f13 w l before after=some r:=by
 unfold GM at h
 split at h
 ·rename_i hl
  unfold f13
  simp only[BD,aJ]
  rw[mF (r:=.brk r)]
  ·rw[aH]
  ·intro y
   have h:=M8 y w l before after l hl (Int.toNat (l.length:Int)+1) 0 [] r (by omega) (by simp) (by simpa using h)
   unfold BE
   erw[h]
   rw[aH]
   simp only[aJ,eP,bH]
 ·cases h
def Xm:aW:=aF G [.cell 8 48] 13 [(.val fb),(.val (.slice 104 lF)),vI,vI] [] 68 Yv [] (.bE (u4 GM))
theorem Xn:hS Xm:=aW.sub x13 fun _ _ h=>M9 h
end Go.Proofs.YtgdcjlldafmomaaGreat
