/- The spans on which two rows of values differ, in plain words. No condition. -/
import Derived.Test.YtgdcjlldafmomaaGreatFC
import Derived.Test.YtgdcjlldafmomaaGreatA5
noncomputable section
namespace Go.Proofs.YtgdcjlldafmomaaGreat
open Go.Ax
def iP:Option Nat→Nat→List ZY→ZO→Option ZO
 |none,_,[],acc=>some acc
 |some _,_,[],_=>none
 |none,d,p::l,acc=>if p.1=p.2 then iP none (d+1) l acc else if l.isEmpty then none else iP (some d) (d+1) l acc
 |some s,d,p::l,acc=>if p.1=p.2 then(if acc.length≤2000 then iP none (d+1) l (acc++[((s:Int),((d:Int),()))]) else none) else if l.isEmpty then none else iP (some s) (d+1) l acc
theorem qv{a b:Zf}(ha:a.length=1024)(hb:b.length=1024){i:Nat}(h:i<1024):
 (a.zip b).drop i=(a[i],b[i])::(a.zip b).drop (i+1):=by
 rw[List.drop_eq_getElem_cons (by rw[List.length_zip];omega),List.getElem_zip]
theorem pj{a b:Zf}(ha:a.length=1024)(hb:b.length=1024){i:Nat}:((a.zip b).drop i).isEmpty=true↔1024≤i:=by
 rw[List.isEmpty_iff,List.drop_eq_nil_iff,List.length_zip,ha,hb];omega
theorem XT(a b:Zf)(ha:a.length=1024)(hb:b.length=1024):
 ∀(n d s to:Nat)(acc r:ZO),d≤1024→1024 -d<n→iP (some s) d ((a.zip b).drop d) acc=some r→
  (d<1024→a[d]? ≠b[d]? →True)→to=d→
  ∃e,e<1024∧d≤e∧iI n (a,b,(d:Int),((s:Int),((to:Int),())),acc)=some (.brk (a,b,(e:Int),((s:Int),((e:Int),())),acc))∧acc.length≤2000∧
   iP none (e+1) ((a.zip b).drop (e+1)) (acc++[((s:Int),((e:Int),()))])=some r∧(∀h:e<1024,a[e]'(by omega)=b[e]'(by omega)):=by
 intro n
 induction n with
 |zero=>intro d s to acc r _ h;omega
 |
  succ n ih=>
  intro d s to acc r hd hn hr _ hto
  subst hto
  by_cases h:to<1024
  ·rw[qv ha hb h] at hr
   have hlt:(to:Int)<(1024:Int):=by omega
   have h0:(0:Int)≤(to:Int):=Int.natCast_nonneg to
   have hw:aV ((to:Int)+1)=((to+1:Nat):Int):=aJ (by omega)
   have key:=fun h2 hr=>ih (to+1) s (to+1) acc r h2 (by omega) hr (fun _ _=>trivial) rfl
   unfold iI at key ⊢
   rw[aP]
   generalize aH _ n=rec at key ⊢
   have na:nth (.int .i64) a (to:Int)=a[to]:=db (t:=.int .i64) (by omega)
   have nb:nth (.int .i64) b (to:Int)=b[to]:=db (t:=.int .i64) (by omega)
   simp only[if_pos h0,if_pos hlt,na,nb,hw]
   unfold iP at hr
   simp only at hr
   by_cases he:a[to]=b[to]
   ·rw[if_pos he] at hr
    split at hr
    ·rename_i hm
     refine⟨to,h,Nat.le_refl _,?_,hm,hr,fun _=>he⟩
     simp[he]
    ·cases hr
   ·rw[if_neg he] at hr
    split at hr
    ·cases hr
    ·rename_i hne
     have h2:to+1<1024:=by
      by_cases hc:1024≤to+1
      ·exact absurd ((pj ha hb).2 hc) hne
      ·omega
     have hne2:¬(((to+1:Nat):Int)=1024):=by omega
     obtain⟨e,e1,e2,e3,e4,e5,e6⟩:=key (by omega) hr
     refine⟨e,e1,by omega,?_,e4,e5,e6⟩
     simp only[he,decide_false,Bool.not_false,if_true,decide_eq_false hne2,Bool.false_eq_true,if_false]
     exact e3
  ·have hz:(a.zip b).drop to= []:=by
    have:=(pj ha hb (i:=to)).2 (by omega)
    exact List.isEmpty_iff.1 this
   rw[hz] at hr
   unfold iP at hr
   cases hr
theorem GQ:ff=18446744073709551615+1:=rfl
theorem LN(a b:Zf)(ha:a.length=1024)(hb:b.length=1024):
 ∀(n d:Nat)(acc r:ZO),d≤1024→1024 -d<n→iP none d ((a.zip b).drop d) acc=some r→
  mU n (a,b,(d:Int),acc)=some (.brk r):=by
 intro n
 induction n with
 |zero=>intro d acc r _ h;omega
 |
  succ n ih=>
  intro d acc r hd hn hr
  have key:=fun d' acc'(h:d<d')=>ih d' acc' r
  unfold mU at key ⊢
  rw[aP]
  generalize aH _ n=rec at key ⊢
  by_cases h:d<1024
  ·have hlt:(d:Int)<(1024:Int):=by omega
   have h0:(0:Int)≤(d:Int):=Int.natCast_nonneg d
   have hw:aV ((d:Int)+1)=((d+1:Nat):Int):=aJ (by omega)
   have na:nth (.int .i64) a (d:Int)=a[d]:=db (t:=.int .i64) (by omega)
   have nb:nth (.int .i64) b (d:Int)=b[d]:=db (t:=.int .i64) (by omega)
   have hr0:=hr
   rw[qv ha hb h] at hr
   unfold iP at hr
   simp only at hr
   simp only[decide_eq_true hlt,if_true,if_pos h0,if_pos hlt,na,nb,hw]
   by_cases he:a[d]=b[d]
   ·rw[if_pos he] at hr
    simp only[he,decide_true,if_true,aG]
    exact key (d+1) acc (by omega) (by omega) (by omega) hr
   ·rw[if_neg he] at hr
    split at hr
    ·cases hr
    ·rename_i hne
     have h2:d+1<1024:=by
      by_cases hc:1024≤d+1
      ·exact absurd ((pj ha hb).2 hc) hne
      ·omega
     obtain⟨e,e1,e2,e3,e4,e5,e6⟩:=XT a b ha hb 18446744073709551615 (d+1) d (d+1) acc r (by omega) (by omega) hr (fun _ _=>trivial) rfl
     have step:iI ff (a,b,(d:Int),((d:Int),((0:Int),())),acc)=some (.brk (a,b,(e:Int),((d:Int),((e:Int),())),acc)):=by
      rw[←e3,GQ]
      unfold iI
      rw[aP]
      have hne2:¬(((d+1:Nat):Int)=1024):=by omega
      simp only[if_pos h0,if_pos hlt,na,nb,hw,he,decide_false,Bool.not_false,if_true,decide_eq_false hne2,Bool.false_eq_true,if_false]
     have hm:(acc.length+1)*16≤aC:=by have:aC=140737488355328:=rfl;omega
     simp only[decide_eq_false he,Bool.false_eq_true,if_false,step,aG,List.length_cons,List.length_nil,Nat.zero_add,if_pos hm]
     refine key e _ (by omega) (by omega) (by omega) ?_
     rw[qv ha hb e1]
     unfold iP
     simp only
     rw[if_pos (e6 e1)]
     exact e5
  ·have hd:d=1024:=by omega
   subst hd
   have hz:(a.zip b).drop 1024= []:=List.isEmpty_iff.1 ((pj ha hb).2 (Nat.le_refl _))
   rw[hz] at hr
   unfold iP at hr
   cases hr
   rfl
def pk(a b:ew):Option ZO:=if List.length a=1024 then(if List.length b=1024 then iP none 0 (List.zip a b) [] else none) else none
theorem JE{a b:ew}{r:ZO}(h:pk a b=some r):xz a b=some r:=by
 unfold pk at h
 split at h
 ·rename_i ha
  split at h
  ·rename_i hb
   unfold xz
   have:=LN a b ha hb ff 0 [] r (by omega) (by decide) (by rw[List.drop_zero];exact h)
   erw[this]
   rfl
  ·cases h
 ·cases h
def GR:aT:=aD G [.tmp 4] 23 [(.bD gA),(.bD gA)] [] 90 Lf [] (.bx (u2 pk))
theorem GS:hS GR:=aT.sub IU fun _ _ h=>JE h
end Go.Proofs.YtgdcjlldafmomaaGreat
