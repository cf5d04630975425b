/- A credential by the records, in plain words. No condition. -/
import Derived.Test.YtadeibjelmcdgaaGreatV3
noncomputable section
namespace Go.Proofs.YtadeibjelmcdgaaGreat
open Go.Ax
def val(w:bH)(s p i d k:Int)(g:Nat):Option Int:=
 let x:=sj w.2.1 (gw s p i g) d k
 if x.2=true∧Dm w.1.1 s g x.1=true then some x.1 else none
def zI:tj:=((0:Int),((0:Int),((0:Int),(([]:List Int),()))))
theorem Hk(w:bH)(s p i d k:Int)(g:Nat)(rd:List aT)(hf:w.2.1.length≤aF)(hr:(rd.length+1)*40≤aF):
 ∃v x,ql (g:Int) s p i d w k w.1.1 rd=some (v,(val w s p i d k g).isSome,s,p,i,d,w,k,w.1.1,rd++[x])∧(∀v',val w s p i d k g=some v'→v=v'):=by
 unfold ql val
 rw[Ai,Option.bind_some]
 simp only[List.length_cons,List.length_nil,Nat.zero_add,if_pos hr,zi,if_pos hf,Option.bind_some]
 generalize sj w.2.1 (gw s p i (g:Int)) d k=x
 obtain⟨v,ok⟩:=x
 cases ok
 ·exact⟨v,_,rfl,fun v' h=>by simp at h⟩
 ·simp only[if_true,FW,Option.bind_some]
  cases hv:Dm w.1.1 s (g:Int) v
  ·exact⟨v,_,rfl,fun v' h=>by simp at h⟩
  ·exact⟨v,_,rfl,fun v' h=>by simpa using h⟩
def gO(w:bH)(s p i d k:Int)(g m:Nat):List Int:=(List.range' g m).map fun j=>(val w s p i d k j).getD 0
theorem Hl(w:bH)(s p i d k:Int)(hf:w.2.1.length≤aF)(hs:0≤s∧s<(w.1.1.2.2.1.length:Int))(hn:bB w.1.1 s*120≤aF)(x y z:Int):
 ∀(n g:Nat)(vs:List Int)(rd:List aT),1≤g→g≤bB w.1.1 s→bB w.1.1 s -g<n→vs.length=g→rd.length+1=g→
  (∃rd',(∀j,g≤j→j<bB w.1.1 s→(val w s p i d k j).isSome=true)∧
   nv n ((g:Int),w,s,p,i,d,k,x,y,z,w.1.1,vs,rd)=some (.brk (s,p,i,x,y,z,vs++gO w s p i d k g (bB w.1.1 s -g),rd')))∨
  (∃rd' j,g≤j∧j<bB w.1.1 s∧val w s p i d k j=none∧nv n ((g:Int),w,s,p,i,d,k,x,y,z,w.1.1,vs,rd)=some (.ret (false,zI,rd'))):=by
 have hm:aF=140737488355328:=rfl
 intro n
 induction n with
 |zero=>intro g vs rd _ _ h;omega
 |
  succ n ih=>
  intro g vs rd h1 h2 hn' hv hr
  have key:=fun vs rd(h:g<bB w.1.1 s)=>ih (g+1) vs rd (by omega) (by omega) (by omega)
  unfold nv at key ⊢
  rw[bx]
  generalize aL _ n=rec at key ⊢
  simp only[if_pos hs.1,if_pos hs.2]
  by_cases h:g<bB w.1.1 s
  ·have Ru:(g:Int)<(List.length ((((((nth db w.1.1.2.2.1 s).2).2).2).2).1):Int):=by unfold bB at h;omega
   have hw:bM ((g:Int)+1)=((g+1:Nat):Int):=eB (by omega)
   obtain⟨v,r,e,hval⟩:=Hk w s p i d k g rd hf (by omega)
   simp only[decide_eq_true Ru,if_true,e,Option.bind_some,hw]
   cases hvg:val w s p i d k g with
   |
    none=>
    right
    refine⟨rd++[r],g,Nat.le_refl _,h,hvg,?_⟩
    simp only[Option.isSome_none,Bool.not_false,if_true]
    rfl
   |
    some v'=>
    have:=hval v' hvg
    subst this
    simp only[Option.isSome_some,Bool.not_true,Bool.false_eq_true,if_false,List.length_cons,List.length_nil,Nat.zero_add]
    rw[if_pos (by omega)]
    rcases key (vs++[v]) (rd++[r]) h (by simp;omega) (by simp;omega) with⟨rd',q1,q2⟩|⟨rd',j,q1,q2,q3,q4⟩
    ·left
     refine⟨rd',fun j j1 j2=>?_,?_⟩
     ·by_cases hj:j=g
      ·subst hj;rw[hvg];rfl
      ·exact q1 j (by omega) j2
     ·rw[q2,show bB w.1.1 s -g=(bB w.1.1 s -(g+1))+1 from by omega]
      simp only[gO,List.range'_succ,List.map_cons,hvg,Option.getD_some,List.append_assoc,List.singleton_append]
    ·right
     exact⟨rd',j,by omega,q2,q3,q4⟩
  ·have hge:¬(g:Int)<(List.length ((((((nth db w.1.1.2.2.1 s).2).2).2).2).1):Int):=by unfold bB at h;omega
   left
   refine⟨rd,fun j j1 j2=>by omega,?_⟩
   simp only[decide_eq_false hge,Bool.false_eq_true,if_false]
   rw[show bB w.1.1 s -g=0 from by omega]
   simp[gO]
def pre(src:dr)(s p i d:Int):Bool:=(f25 src s).getD false&&(f17 p i).getD false&&decide (0≤d)&&decide (d<1024)
def CJ(src:dr):Prop:=∀s:Int,0≤s→s<(src.2.2.1.length:Int)→bB src s*120≤aF
theorem yC(w:bH)(s p i d k:Int)(hR:Rows w.1.1)(hF:CJ w.1.1)(hf:w.2.1.length≤aF):
 ∃ok x rd,f10 w s p i d k=some (ok,x,rd)∧
  (ok=true↔pre w.1.1 s p i d=true∧∀j,1≤j→j<bB w.1.1 s→(val w s p i d k j).isSome=true)∧
  (ok=true→x.2.2.2.1=p::gO w s p i d k 1 (bB w.1.1 s -1)):=by
 obtain⟨r1,e1,g1⟩:=vR w.1.1 s hR
 obtain⟨r2,e2,_⟩:=vH p i
 have hp:pre w.1.1 s p i d=(r1&&r2&&decide (0≤d)&&decide (d<1024)):=by unfold pre;rw[e1,e2];rfl
 have out:∀(b:Bool),b=true→pre w.1.1 s p i d=false→∃ok x rd,(aG (U:=bH×Int×Int×Int×Int×Int×Int×Int×Int×dr) (if b=true then(ei (some (false,((0:Int),((0:Int),((0:Int),(([]:List Int),())))),([]:List aT)))) else(some (.brk (w,s,p,i,d,k,(0:Int),(0:Int),(0:Int),w.1.1)))) fun⟨a,b,c,d,e,f,g,h,i,j⟩=>aG (U:=Int×Int×Int×Int×Int×Int×(List Int)×(List aT)) (nv dQ ((1:Int),a,b,c,d,e,f,g,h,i,j,[c],([]:List aT))) fun⟨k,l,m,_,_,_,n,o⟩=>some (true,(k,(l,(m,(n,())))),o))=some (ok,x,rd)∧
  (ok=true↔pre w.1.1 s p i d=true∧∀j,1≤j→j<bB w.1.1 s→(val w s p i d k j).isSome=true)∧
  (ok=true→x.2.2.2.1=p::gO w s p i d k 1 (bB w.1.1 s -1)):=by
  rintro b rfl hb
  exact⟨false,zI,[],rfl,⟨fun h=>(by cases h),fun h=>by rw[hb] at h;cases h.1⟩,fun h=>by cases h⟩
 unfold f10
 rw[e1]
 cases r1 with
 |false=>exact out true rfl (by rw[hp];rfl)
 |
  true=>
  rw[e2]
  cases r2 with
  |false=>exact out true rfl (by rw[hp];rfl)
  |
   true=>
   by_cases h1:d<0
   ·have:¬0≤d:=by omega
    simp only[Bool.not_true,Bool.false_eq_true,if_false,Option.bind_some,decide_eq_true h1,if_true]
    exact out true rfl (by rw[hp];simp[this])
   ·by_cases h2:1024≤d
    ·have:¬d<1024:=by omega
     simp only[Bool.not_true,Bool.false_eq_true,if_false,Option.bind_some,decide_eq_false h1,decide_eq_true h2,if_true]
     exact out true rfl (by rw[hp];simp[this])
    ·have g3:0≤d:=by omega
     have g4:d<1024:=by omega
     obtain⟨q1,q2,q3⟩:=g1 rfl
     have hpre:pre w.1.1 s p i d=true:=by rw[hp];simp[g3,g4]
     simp only[Bool.not_true,Bool.false_eq_true,if_false,Option.bind_some,decide_eq_false h1,decide_eq_false h2,aR]
     have hn:=hF s q1 q2
     have hb:bB w.1.1 s -1<dQ:=by have:aF=140737488355328:=rfl;have:dQ=18446744073709551616:=rfl;omega
     rcases Hl w s p i d k hf ⟨q1,q2⟩ hn 0 0 0 dQ 1 [p] [] (Nat.le_refl _) (by omega) hb rfl rfl with⟨rd',z1,z2⟩|⟨rd',j,z1,z2,z3,z4⟩
     ·erw[z2]
      refine⟨true,_,_,rfl,⟨fun _=>⟨hpre,z1⟩,fun _=>rfl⟩,fun _=>rfl⟩
     ·erw[z4]
      refine⟨false,zI,rd',rfl,⟨fun h=>(by cases h),fun h=>?_⟩,fun h=>by cases h⟩
      have:=h.2 j z1 z2
      rw[z3] at this;cases this
end Go.Proofs.YtadeibjelmcdgaaGreat
