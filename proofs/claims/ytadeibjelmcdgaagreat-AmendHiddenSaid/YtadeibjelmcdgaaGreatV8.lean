/- AmendHidden: the law's function gives true at every input. No condition. -/
import Derived.Test.YtadeibjelmcdgaaGreatV7
noncomputable section
namespace Go.Proofs.YtadeibjelmcdgaaGreat
open Go.Ax
theorem AH:aO bC ((0:Int),((0:Int),((0:Int),()))) ((0:Int),((0:Int),((0:Int),())))=true:=rfl
theorem yR{a0:bH}{a1:eY}{a:Int}{f:aM}(hp:Ie a0 a1)(Sa:Ie (plus a0 f) a1)(hfew:a0.2.1.length≤30)(hf:f.1=gw a1.2.2.1 a1.2.2.2.1 a1.2.2.2.2.1 a)(hi:0≤a1.2.2.2.2.1∧a1.2.2.2.2.1<4)(ha:1≤a∧a<12)
 (hk:1≤f.2.2.2.1∧f.2.2.2.1≤16777216) (hs:Sorted a0.2.1) (Rw:∀j,j<a1.2.2.2.2.2.2.2.1.length→nth (.int .i64) a1.2.2.2.2.2.2.2.1 (j:Int)≠a):
 (Option.bind (f9 a0 a1 (bM (f.2.2.2.1 -(1:Int)))) fun⟨o,_⟩=>Option.bind (f10 (plus a0 f) a1.2.2.1 a1.2.2.2.1 a1.2.2.2.2.1 a1.2.2.2.2.2.1 f.2.2.2.1) fun⟨p,_,_⟩=>aG (U:=Bool×Bool×eY×aM×bH) (Option.bind (α:=Bool) (if(decide ((0:Int)<(List.length a0.2.1:Int)))=true then(if 0≤(bM ((List.length a0.2.1:Int) -(1:Int))) then(if(bM ((List.length a0.2.1:Int) -(1:Int)))<(List.length a0.2.1:Int) then(some (decide (f.2.2.2.1≤(((((nth aP a0.2.1 (bM ((List.length a0.2.1:Int) -(1:Int)))).2).2).2).1)))) else none) else none) else(some false)) fun v15=>if v15=true then(ei (some true)) else(some (.brk (o,p,a1,f,plus a0 f)))) fun⟨t,u,r,s,q⟩=>Option.bind (qW q [r] (bM (s.2.2.2.1 -(1:Int))) s.2.2.2.1) fun y16=>if(!t)=true then(some (decide ((List.length y16:Int)=(0:Int)))) else(some (u==(decide ((List.length y16:Int)=(0:Int))))))=some true:=by
 have hw:bM (f.2.2.2.1 -1)=f.2.2.2.1 -1:=ik (by omega) (by omega)
 rw[hw]
 obtain⟨b,rd,e9,q9⟩:=AM a0 a1 (f.2.2.2.1 -1) hp
 obtain⟨b',rd',e9',q9'⟩:=AM (plus a0 f) a1 (f.2.2.2.1 -1) Sa
 obtain⟨ok,x,rx,e10,q10,Ic⟩:=yC (plus a0 f) a1.2.2.1 a1.2.2.2.1 a1.2.2.2.2.1 a1.2.2.2.2.2.1 f.2.2.2.1 Sa.rows Sa.Gc Sa.facts
 rw[e9,Option.bind_some]
 dsimp only
 rw[e10,Option.bind_some]
 dsimp only
 have hbb:b'=b:=by
  have:(b'=true)↔(b=true):=by
   rw[q9,q9',Fits.before (by omega)]
  cases b<;>cases b'<;>simp_all
 subst hbb
 have fin:(∀z∈a0.2.1,z.2.2.2.1<f.2.2.2.1)→(Option.bind (qW (plus a0 f) [a1] (f.2.2.2.1 -1) f.2.2.2.1) fun y16=>if(!b')=true then(some (decide ((List.length y16:Int)=(0:Int)))) else(some (ok==(decide ((List.length y16:Int)=(0:Int))))))=some true:=by
  intro hlast
  unfold qW
  rw[if_pos (show[a1].length≤aF by simp[aF])]
  simp only[sJ,e9',Option.bind_some]
  cases b' with
  |false=>rfl
  |
   true=>
   obtain⟨hform,_,hfits⟩:=q9.1 rfl
   obtain⟨wr,e24,q24⟩:=vS (plus a0 f) a1 f.2.2.2.1 Sa.rows Sa.AL hform Sa.fs e10
   simp only[Bool.true_eq_false,if_false,e24,Option.bind_some,List.length_nil]
   cases ok with
   |false=>rfl
   |
    true=>
    have hx:=Ic rfl
    have hwr:wr= []:=by
     refine q24.2 (Or.inr ⟨rfl,?_⟩)
     rw[hx]
     exact Fits.after hp.Gc hp.rows hf hi ha hlast hform Rw hfits
    subst hwr
    rfl
 by_cases h0:(0:Int)<(List.length a0.2.1:Int)
 ·have Sp:bM ((List.length a0.2.1:Int) -1)=((List.length a0.2.1 -1:Nat):Int):=by rw[ik (by omega) (by omega)];omega
  rw[if_pos (decide_eq_true h0),Sp,if_pos (by omega),if_pos (by omega),Option.bind_some]
  by_cases h1:f.2.2.2.1≤(nth aP a0.2.1 ((List.length a0.2.1 -1:Nat):Int)).2.2.2.1
  ·rw[if_pos (decide_eq_true h1)];rfl
  ·rw[if_neg (by simpa using h1),aR]
   simp only[hw]
   refine fin fun z hz=>?_
   obtain⟨i,hi',rfl⟩:=Dg hz
   have:=yK hs (List.length a0.2.1 -1 -i) i (by omega)
   rw[show i+(List.length a0.2.1 -1 -i)=List.length a0.2.1 -1 from by omega] at this
   exact Int.lt_of_le_of_lt this (Int.not_le.1 h1)
 ·rw[if_neg (by simpa using h0),Option.bind_some,if_neg Bool.false_ne_true,aR]
  simp only[hw]
  refine fin fun z hz=>?_
  have:a0.2.1= []:=List.eq_nil_of_length_eq_zero (by omega)
  rw[this] at hz;cases hz
theorem Pk(a0:bH)(a1:eY)(a2:Int)(a3:aM)(af0:wf bS a0)(af1:wf ep a1)(_af2:wf (.int .i64) a2)(_af3:wf aP a3):f3 a0 a1 a2 a3=some true:=by
 have hR:=Df af0
 obtain⟨r5,e5,s5⟩:=FQ a0 a1 hR
 unfold f3
 rw[Dy,Option.bind_some,if_neg (by simp),e5]
 cases r5 with
 |false=>rfl
 |
  true=>
  have hfew:=s5 rfl
  rcases FR a0.1.1 a1.2.2.1 hR with e6|⟨e6,hno⟩
  ·rw[e6];rfl
  ·rw[e6]
   simp only[Bool.not_true,Bool.false_eq_true,if_false,Option.bind_some,aR]
   rcases yM a0 a1 a2 a3 af1.2.2.2.2.2.2.2.1.2.1 with⟨el,Rw⟩|el
   ·rw[el,aR]
    simp only
    have hm:aF=140737488355328:=rfl
    have hp:Ie a0 a1:=⟨hR,vN af0,by omega,hno,af1.2.2.2.2.2.2.2.1.1⟩
    rcases FI a1.2.2.1 a1.2.2.2.1 a1.2.2.2.2.1 a2 with e7|⟨e7,g1,g2,g3,g4,g5,g6,g7,g8⟩
    ·obtain⟨x,e,e8,_⟩:=Aj a0.2.1 (((0:Int),((0:Int),((0:Int),()))),a3.2) hfew
     rw[e7,Option.bind_some,e8,Option.bind_some]
     dsimp only
     rw[AH]
     by_cases h1:e=0
     ·by_cases h2:a2<1
      ·simp only[h1,decide_true,Bool.not_true,Bool.false_eq_true,if_false,decide_eq_true h2,if_true,Option.bind_some];rfl
      ·simp only[h1,decide_true,Bool.not_true,Bool.false_eq_true,if_false,decide_eq_false h2,Option.bind_some];rfl
     ·simp only[decide_eq_false h1,Bool.not_false,if_true,Option.bind_some];rfl
    ·obtain⟨x,e,e8,s8⟩:=Aj a0.2.1 (gw a1.2.2.1 a1.2.2.2.1 a1.2.2.2.2.1 a2,a3.2) hfew
     rw[e7,Option.bind_some,e8,Option.bind_some]
     dsimp only
     by_cases h1:e=0
     ·obtain⟨hx,k1,k2,hs⟩:=s8 h1
      subst hx
      by_cases h2:a2<1
      ·simp only[h1,decide_true,Bool.not_true,Bool.false_eq_true,if_false,decide_eq_true h2,if_true,Option.bind_some];rfl
      ·cases hz:aO bC (gw a1.2.2.1 a1.2.2.2.1 a1.2.2.2.2.1 a2) ((0:Int),((0:Int),((0:Int),()))) with
       |true=>simp only[h1,decide_true,Bool.not_true,Bool.false_eq_true,if_false,decide_eq_false h2,if_true,Option.bind_some];rfl
       |
        false=>
        simp only[h1,decide_true,Bool.not_true,Bool.false_eq_true,if_false,decide_eq_false h2,Option.bind_some,aR]
        have Sa:Ie (plus a0 (gw a1.2.2.1 a1.2.2.2.1 a1.2.2.2.2.1 a2,a3.2)) a1:=⟨hR,(vN af0:CJ a0.1.1),by show(a0.2.1++[_]).length≤aF;simp;omega,hno,af1.2.2.2.2.2.2.2.1.1⟩
        exact yR hp Sa hfew rfl ⟨g5,g6⟩ ⟨by omega,g8⟩ ⟨k1,k2⟩ hs Rw
     ·simp only[decide_eq_false h1,Bool.not_false,if_true,Option.bind_some];rfl
   ·rw[el];rfl
end Go.Proofs.YtadeibjelmcdgaaGreat
