/- A further fact about a field that was not shown: what is read before and after. No condition. -/
import Derived.Test.YtadeibjelmcdgaaGreatV5
noncomputable section
namespace Go.Proofs.YtadeibjelmcdgaaGreat
open Go.Ax
theorem P0{a b:aW}(h:aO bC a b=true):a=b:=(yI bC a b).1 h
theorem vT{l:List aM}{f:aM}{k:aW}{d known:Int}(h:dD k known f=false):sj (l++[f]) k d known=sj l k d known:=by
 unfold sj gk
 rw[List.filter_append,List.filter_cons,h]
 simp
theorem yS{l:List aM}{k:aW}{d n m:Int}(h:∀f∈l,f.2.2.2.1≤n∧f.2.2.2.1≤m):sj l k d n=sj l k d m:=by
 unfold sj gk
 rw[List.filter_congr (p:=dD k n) (q:=dD k m) fun f hf=>by
  obtain⟨h1,h2⟩:=h f hf
  unfold dD
  rw[decide_eq_true h1,decide_eq_true h2]]
def plus(w:bH)(f:aM):bH:=(w.1,(w.2.1++[f],w.2.2))
theorem tJ(w:bH)(f:aM)(s p i d k:Int)(g:Nat)(h:k<f.2.2.2.1):val (plus w f) s p i d k g=val w s p i d k g:=by
 unfold val
 have:sj (plus w f).2.1 (gw s p i g) d k=sj w.2.1 (gw s p i g) d k:=vT (by unfold dD;rw[decide_eq_false (by omega)];simp)
 rw[this];rfl
theorem yT(w:bH)(f:aM)(s p i d k:Int)(g:Nat)(h:f.1≠gw s p i g)(hk:∀x∈w.2.1,x.2.2.2.1<k):val (plus w f) s p i d k g=val w s p i d (k -1) g:=by
 unfold val
 have h1:sj (plus w f).2.1 (gw s p i g) d k=sj w.2.1 (gw s p i g) d k:=vT (by
  unfold dD
  cases he:aO bC f.1 (gw s p i g) with
  |false=>rfl
  |true=>exact absurd (P0 he) h)
 have h2:sj w.2.1 (gw s p i g) d k=sj w.2.1 (gw s p i g) d (k -1):=yS fun x hx=>by have:=hk x hx;omega
 rw[h1,h2];rfl
theorem Dp{s p i a:Int}{g:Nat}(hi:0≤i∧i<4)(ha:0≤a∧a<12)(hg:g*120≤aF)(h:a≠(g:Int)):gw s p i a≠gw s p i g:=by
 have hm:aF=140737488355328:=rfl
 unfold gw
 intro e
 have e:=congrArg (fun x:aW=>x.2.2.1) e
 simp only at e
 rw[ik (x:=16*i) (by omega) (by omega),ik (by omega) (by omega),ik (by omega) (by omega)] at e
 omega
theorem tK{w v:bH}{s p i d k l:Int}:∀(m g:Nat),(∀j,g≤j→j<g+m→val w s p i d k j=val v s p i d l j)→gO w s p i d k g m=gO v s p i d l g m:=by
 intro m
 induction m with
 |zero=>intro g _;rfl
 |
  succ m ih=>
  intro g h
  simp only[gO,List.range'_succ,List.map_cons] at ih ⊢
  rw[h g (Nat.le_refl _) (by omega),ih (g+1) (fun j h1 h2=>h j (by omega) (by omega))]
theorem rP(w:bH)(s p i d k:Int)(n g:Nat)(h1:1≤g)(h2:g<n):nth (.int .i64) (p::gO w s p i d k 1 (n -1)) (g:Int)=(val w s p i d k g).getD 0:=by
 have hl:g<(p::gO w s p i d k 1 (n -1)).length:=by simp[gO];omega
 rw[ml (t:=.int .i64) hl]
 obtain⟨g',rfl⟩:∃g',g=g'+1:=⟨g -1,by omega⟩
 simp[gO,Nat.add_comm]
def Fits(w:bH)(q:eY)(k:Int):Prop:=
 pre w.1.1 q.2.2.1 q.2.2.2.1 q.2.2.2.2.1 q.2.2.2.2.2.1=true∧(∀j,1≤j→j<bB w.1.1 q.2.2.1→(val w q.2.2.1 q.2.2.2.1 q.2.2.2.2.1 q.2.2.2.2.2.1 k j).isSome=true)∧
 ∀a,a<q.2.2.2.2.2.2.2.1.length→EW q (q.2.2.2.1::gO w q.2.2.1 q.2.2.2.1 q.2.2.2.2.1 q.2.2.2.2.2.1 k 1 (bB w.1.1 q.2.2.1 -1)) a
structure Ie(w:bH)(q:eY):Prop where
 rows:Rows w.1.1
 Gc:CJ w.1.1
 facts:w.2.1.length≤aF
 AL:nu w.1.1 q.2.2.1
 fs:q.2.2.2.2.2.2.2.1.length*8≤aF
theorem AM(w:bH)(q:eY)(k:Int)(h:Ie w q):∃b rd,f9 w q k=some (b,rd)∧(b=true↔qn q∧f23 q=some true∧Fits w q k):=by
 obtain⟨r,e,hr⟩:=Dn q (by have:=h.fs;omega)
 unfold f9
 rw[e,Option.bind_some]
 cases r with
 |false=>exact⟨false,[],rfl,⟨fun h=>(by cases h),fun h=>by cases h.2.1⟩⟩
 |
  true=>
  have hp:=hr rfl
  obtain⟨ok,x,rd,e1,q1,q2⟩:=yC w q.2.2.1 q.2.2.2.1 q.2.2.2.2.1 q.2.2.2.2.2.1 k h.rows h.Gc h.facts
  obtain⟨wr,e2,q3⟩:=vS w q k h.rows h.AL hp h.fs e1
  simp only[Bool.not_true,Bool.false_eq_true,if_false,e2,Option.bind_some]
  cases ok with
  |
   false=>
   exact⟨false,rd,rfl,⟨fun h=>(by cases h),fun h=>by have:=q1.2 ⟨h.2.2.1,h.2.2.2.1⟩;cases this⟩⟩
  |
   true=>
   have hx:=q2 rfl
   have hq:=q1.1 rfl
   refine⟨_,rd,rfl,?_⟩
   rw[decide_eq_true_eq]
   rw[hx] at q3
   have l0:((List.length wr:Int)=0)↔wr= []:=by
    constructor
    ·intro h;exact List.eq_nil_of_length_eq_zero (by omega)
    ·intro h;rw[h];rfl
   rw[l0,q3]
   constructor
   ·rintro(h0|h0)
    ·exact⟨hp,trivial,hq.1,hq.2,fun a ha=>by omega⟩
    ·exact⟨hp,trivial,hq.1,hq.2,h0.2⟩
   ·rintro⟨_,_,_,_,h0⟩
    exact Or.inr ⟨(by trivial),h0⟩
theorem Fits.before{w:bH}{q:eY}{f:aM}{k:Int}(h:k<f.2.2.2.1):Fits (plus w f) q k↔Fits w q k:=by
 unfold Fits
 have hv:∀g:Nat,val (plus w f) q.2.2.1 q.2.2.2.1 q.2.2.2.2.1 q.2.2.2.2.2.1 k g=val w q.2.2.1 q.2.2.2.1 q.2.2.2.2.1 q.2.2.2.2.2.1 k g:=fun g=>tJ w f _ _ _ _ _ g h
 rw[tK (v:=w) (l:=k) _ 1 (fun j _ _=>hv j)]
 simp only[hv]
 rfl
end Go.Proofs.YtadeibjelmcdgaaGreat
