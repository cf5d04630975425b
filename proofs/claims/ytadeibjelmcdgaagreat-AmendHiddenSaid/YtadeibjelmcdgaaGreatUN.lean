/- What is announced, in plain words, in place of the printed function. No condition. -/
import Derived.Test.YtadeibjelmcdgaaGreatFN
noncomputable section
namespace Go.Proofs.YtadeibjelmcdgaaGreat
open Go.Ax
def sJ(w:bH)(before after:Int):List eY→List nN→Option (List nN)
 |[],acc=>some acc
 |p::ps,acc=>Option.bind (f9 w p before) fun x=>if x.1=false then sJ w before after ps acc else
  Option.bind (f24 w p after) fun z=>if z.2.2=false∨0<z.1.length then(if(acc.length+1)*40≤aF then sJ w before after ps (acc++[(p.1,(p.2.1,(z.1,())))]) else none) else sJ w before after ps acc
theorem E9(y:YC)(p:eY)(c:List Int)(acc:List nN)(h:(acc.length+1)*40≤aF):
 qm y p c y 0 (y.gs 1) acc=some (true,y,0,y.gs 1,acc++[(p.1,(p.2.1,(c,())))]):=by
 unfold qm
 rw[dP]
 simp only[if_true,List.length_cons,List.length_nil,Nat.zero_add,if_pos h,Option.bind_some,Nat.beq]
theorem GS(
 y:YC) (w:bH) (l:List eY) (before after:Int) (q:List eY) (hl:l.length≤aF):
 ∀(n i:Nat)(acc r:List nN),i≤l.length→l.length -i<n→sJ w before after (l.drop i) acc=some r→
  lh y.l (fun d=>qm y d.1 d.2.1 d.2.2.1 d.2.2.2.1 d.2.2.2.2.1 d.2.2.2.2.2.1) n
   (y.l,l,(l.length:Int),(i:Int),y,0,y.gs 1,w,q,before,after,acc)=
  some (.brk (y,0,y.gs 1,w,q,before,after,r)):=by
 intro n
 induction n with
 |zero=>intro i acc r _ h;omega
 |
  succ n ih=>
  intro i acc r hi hn hr
  have key:=fun acc(h:i<l.length)=>ih (i+1) acc r (by omega) (by omega)
  unfold lh at key ⊢
  rw[bx]
  generalize aL _ n=rec at key ⊢
  by_cases h:i<l.length
  ·have hd:l.drop i=l[i]::l.drop (i+1):=List.drop_eq_getElem_cons h
   have hw:bM ((i:Int)+1)=((i+1:Nat):Int):=eB (by have:aF=140737488355328:=rfl;omega)
   have Ru:(i:Int)<(l.length:Int):=by omega
   have key:=fun acc=>key acc h
   rw[hd] at hr
   simp only[sJ] at hr
   simp only[decide_eq_true Ru,if_true,if_pos (Int.natCast_nonneg i),if_pos Ru,ml (t:=ep) h,hw]
   cases h9:f9 w l[i] before with
   |none=>rw[h9] at hr;cases hr
   |
    some x=>
    rw[h9] at hr
    simp only[Option.bind_some] at hr ⊢
    obtain⟨x1,x2⟩:=x
    cases x1 with
    |
     false=>
     simp only[if_true] at hr
     simp only[Bool.not_false,if_true]
     exact key acc hr
    |
     true=>
     simp only[Bool.true_eq_false,if_false] at hr
     simp only[Bool.not_true,Bool.false_eq_true,if_false]
     cases h24:f24 w l[i] after with
     |none=>rw[h24] at hr;cases hr
     |
      some z=>
      rw[h24] at hr
      simp only[Option.bind_some] at hr ⊢
      obtain⟨z1,z2,z3⟩:=z
      cases z3 with
      |
       false=>
       simp only[true_or,if_true] at hr
       simp only[Bool.not_false,if_true]
       split at hr
       ·rename_i hm
        rw[E9 y _ _ _ hm,Option.bind_some]
        simp only[Bool.not_true,Bool.false_eq_true,if_false]
        exact key _ hr
       ·cases hr
      |
       true=>
       simp only[Bool.true_eq_false,false_or] at hr
       simp only[Bool.not_true,Bool.false_eq_true,if_false]
       by_cases hz:0<z1.length
       ·rw[if_pos hz] at hr
        have hz':(0:Int)<(z1.length:Int):=by omega
        simp only[decide_eq_true hz',if_true]
        split at hr
        ·rename_i hm
         rw[E9 y _ _ _ hm,Option.bind_some]
         simp only[Bool.not_true,Bool.false_eq_true,if_false]
         exact key _ hr
        ·cases hr
       ·rw[if_neg hz] at hr
        have hz':¬(0:Int)<(z1.length:Int):=by omega
        simp only[decide_eq_false hz',Bool.false_eq_true,if_false]
        exact key _ hr
  ·have:i=l.length:=by omega
   subst this
   simp only[List.drop_length,sJ,Option.some.injEq] at hr
   subst hr
   simp only[Int.lt_irrefl,decide_false,Bool.false_eq_true,if_false]
def qW(w:bH)(l:List eY)(before after:Int):Option (List nN):=if l.length≤aF then sJ w before after l [] else none
theorem GU{w:bH}{l:List eY}{before after:Int}{r:List nN}(h:qW w l before after=some r):f11 w l before after=some r:=by
 unfold qW at h
 split at h
 ·rename_i hl
  unfold f11
  simp only[tG,Option.bind_some]
  rw[kQ (r:=.brk r)]
  ·rw[aR]
  ·intro y
   have h:=GS y w l before after l hl (Int.toNat (l.length:Int)+1) 0 [] r (by omega) (by simp) (by simpa using h)
   unfold tH
   erw[h]
   rw[aR]
   simp only[Option.bind_some,dP,if_true]
 ·cases h
def GV:aH:=aB G [.cell 8 59] 11 [(.val bS),(.val (.slice 104 ep)),(.val (.int .i64)),(.val (.int .i64))] [] 68 Oe [] (.bE (fun d=>qW d.1 d.2.1 d.2.2.1 d.2.2.2.1))
theorem IZ:GV.holds Tryz.prog gl:=aH.sub PX fun _ _ h=>GU h
end Go.Proofs.YtadeibjelmcdgaaGreat
