/- Whether a claim is true, and what is wrong with it, in plain words. No condition. -/
import Derived.Test.YtadeibjelmcdgaaGreatV4
noncomputable section
namespace Go.Proofs.YtadeibjelmcdgaaGreat
open Go.Ax
theorem Ga(b:dr)(k:Int)(h:Rows b)(hn:nu b k):f68 b k=some 0:=by
 have key:=i6 (L:=nO) rfl b.2.2.2.1.length (fun i=>(b.2.2.2.1,k,(b.2.2.2.1.length:Int),(i:Int))) () (fun _=>True) (fun _:Int=>False) ?step ?stop (Int.toNat (b.2.2.2.1.length:Int)+1) (by omega)
 ·have h1:mB b.2.2.2.1 k=some false:=by
   unfold mB qN
   rcases key with⟨_,e⟩|⟨r,hr,_⟩
   ·erw[e];rfl
   ·exact hr.elim
  unfold f68
  rw[h1]
  split
  ·split<;>rfl
  ·rfl
 case step=>
  intro rec i hi
  have Ru:(i:Int)<(b.2.2.2.1.length:Int):=by omega
  have h0:(0:Int)≤(i:Int):=Int.natCast_nonneg i
  have:=hn i hi
  left
  simp only[decide_eq_true Ru,if_true,if_pos h0,if_pos Ru,ko hi h.rules,qM,Option.bind_some,decide_eq_false this,Bool.false_eq_true,if_false,and_self]
 case stop=>
  intro rec
  simp
theorem Gb(w:bH)(s p i d k:Int)(hR:Rows w.1.1)(hn:nu w.1.1 s){ok:Bool}{x:tj}{rd:List aT}(h:f10 w s p i d k=some (ok,x,rd)):f43 w s p i d k=some (rd,ok,x):=by
 unfold f43
 rw[Ga _ _ hR hn,Option.bind_some,if_pos (by decide),if_pos (by decide),if_pos rfl,h]
 rfl
theorem PY{v d:Int}(h:¬v≤d)(hd:-1≤d):0≤v:=by omega
theorem PZ{v d:Int}(h:¬v≤d)(hd:-1≤d):-1≤v:=by omega
def qn(p:eY):Prop:=(∀a,a<p.2.2.2.2.2.2.2.1.length→0≤nth (.int .i64) p.2.2.2.2.2.2.2.1 (a:Int))∧p.2.2.2.2.2.2.2.1.length=p.2.2.2.2.2.2.2.2.1.length
theorem Dn(p:eY)(hl:p.2.2.2.2.2.2.2.1.length≤aF):∃r,f23 p=some r∧(r=true→qn p):=by
 have key:∀(n i:Nat)(d:Int),i≤p.2.2.2.2.2.2.2.1.length→p.2.2.2.2.2.2.2.1.length -i<n→-1≤d→
  (qL n (d,p.2.2.2.2.2.2.2.1,(p.2.2.2.2.2.2.2.1.length:Int),(i:Int),p)=some (.brk p)∧∀a,i≤a→a<p.2.2.2.2.2.2.2.1.length→0≤nth (.int .i64) p.2.2.2.2.2.2.2.1 (a:Int))∨qL n (d,p.2.2.2.2.2.2.2.1,(p.2.2.2.2.2.2.2.1.length:Int),(i:Int),p)=some (.ret false):=by
  intro n
  induction n with
  |zero=>intro i d _ h;omega
  |
   succ n ih=>
   intro i d hi hn hd
   have key:=fun d(hd:-1≤d)(h:i<p.2.2.2.2.2.2.2.1.length)=>ih (i+1) d (by omega) (by omega) hd
   unfold qL at key ⊢
   rw[bx]
   generalize aL _ n=rec at key ⊢
   by_cases h:i<p.2.2.2.2.2.2.2.1.length
   ·have Ru:(i:Int)<(p.2.2.2.2.2.2.2.1.length:Int):=by omega
    simp only[decide_eq_true Ru,if_true,if_pos (Int.natCast_nonneg i),if_pos Ru,ko h hl]
    by_cases h1:nth (.int .i64) p.2.2.2.2.2.2.2.1 (i:Int)≤d
    ·right;rw[if_pos (decide_eq_true h1)];rfl
    ·rw[if_neg (by simpa using h1)]
     rcases key (nth (.int .i64) p.2.2.2.2.2.2.2.1 (i:Int)) (PZ h1 hd) h with⟨e,q⟩|e
     ·left
      refine⟨e,fun a a1 a2=>?_⟩
      by_cases ha:a=i
      ·subst ha;exact PY h1 hd
      ·exact q a (by omega) a2
     ·exact Or.inr e
   ·have:¬((i:Int)<(p.2.2.2.2.2.2.2.1.length:Int)):=by omega
    left
    refine⟨by simp only[decide_eq_false this,Bool.false_eq_true,if_false],fun a a1 a2=>by omega⟩
 unfold f23
 rcases key (Int.toNat (p.2.2.2.2.2.2.2.1.length:Int)+1) 0 (-1) (by omega) (by omega) (by omega) with⟨e,q⟩|e
 ·erw[e]
  exact⟨_,rfl,fun h=>⟨fun a ha=>q a (by omega) ha,by have:=of_decide_eq_true h;omega⟩⟩
 ·erw[e]
  exact⟨false,rfl,fun h=>by cases h⟩
def EW(p:eY)(x:List Int)(a:Nat):Prop:=nth (.int .i64) p.2.2.2.2.2.2.2.1 (a:Int)<(x.length:Int)∧nth (.int .i64) x (nth (.int .i64) p.2.2.2.2.2.2.2.1 (a:Int))=nth (.int .i64) p.2.2.2.2.2.2.2.2.1 (a:Int)
theorem vS(w:bH)(p:eY)(k:Int)(hR:Rows w.1.1)(hn:nu w.1.1 p.2.2.1)(hp:qn p)(hl:p.2.2.2.2.2.2.2.1.length*8≤aF){ok:Bool}{x:tj}{rd:List aT}
 (h:f10 w p.2.2.1 p.2.2.2.1 p.2.2.2.2.1 p.2.2.2.2.2.1 k=some (ok,x,rd)):
 ∃wr,f24 w p k=some (wr,rd,ok)∧(wr= []↔p.2.2.2.2.2.2.2.1.length=0∨ok=true∧∀a,a<p.2.2.2.2.2.2.2.1.length→EW p x.2.2.2.1 a):=by
 have key:∀(
  n i:Nat) (wr:List Int),i≤p.2.2.2.2.2.2.2.1.length→p.2.2.2.2.2.2.2.1.length -i<n→wr.length≤i→
  ∃wr',tF n (rd,ok,p.2.2.2.2.2.2.2.1,(p.2.2.2.2.2.2.2.1.length:Int),(i:Int),p,x,wr)=some (.brk (rd,ok,wr'))∧(wr'= []↔wr= []∧(i=p.2.2.2.2.2.2.2.1.length∨ok=true∧∀a,i≤a→a<p.2.2.2.2.2.2.2.1.length→EW p x.2.2.2.1 a)):=by
  intro n
  induction n with
  |zero=>intro i d _ h;omega
  |
   succ n ih=>
   intro i wr hi hn hw
   have key:=fun wr(hw:wr.length≤i+1)(h:i<p.2.2.2.2.2.2.2.1.length)=>ih (i+1) wr (by omega) (by omega) hw
   unfold tF at key ⊢
   rw[bx]
   generalize aL _ n=rec at key ⊢
   by_cases hq:i<p.2.2.2.2.2.2.2.1.length
   ·have Ru:(i:Int)<(p.2.2.2.2.2.2.2.1.length:Int):=by omega
    have hlv:(i:Int)<(p.2.2.2.2.2.2.2.2.1.length:Int):=by have:=hp.2;omega
    have hge:=hp.1 i hq
    simp only[decide_eq_true Ru,if_true,if_pos (Int.natCast_nonneg i),if_pos Ru,ko hq (by omega)]
    have bad:∀(b:Bool),b=true→¬(ok=true∧EW p x.2.2.2.1 i)→∃wr',(if b=true then(if(List.length wr+List.length [nth (.int .i64) p.2.2.2.2.2.2.2.1 (i:Int)])*8≤aF then(rec (rd,ok,p.2.2.2.2.2.2.2.1,(p.2.2.2.2.2.2.2.1.length:Int),((i+1:Nat):Int),p,x,wr++[nth (.int .i64) p.2.2.2.2.2.2.2.1 (i:Int)])) else none) else(rec (rd,ok,p.2.2.2.2.2.2.2.1,(p.2.2.2.2.2.2.2.1.length:Int),((i+1:Nat):Int),p,x,wr)))=some (.brk (rd,ok,wr'))∧(wr'= []↔wr= []∧(i=p.2.2.2.2.2.2.2.1.length∨ok=true∧∀a,i≤a→a<p.2.2.2.2.2.2.2.1.length→EW p x.2.2.2.1 a)):=by
     intro b hb hno
     subst hb
     simp only[if_true,List.length_cons,List.length_nil,Nat.zero_add]
     rw[if_pos (by omega)]
     obtain⟨wr',e,q⟩:=key (wr++[nth (.int .i64) p.2.2.2.2.2.2.2.1 (i:Int)]) (by simp;omega) hq
     refine⟨wr',e,?_⟩
     rw[q]
     constructor
     ·rintro⟨h1,_⟩;simp at h1
     ·rintro⟨_,h2|h2⟩
      ·omega
      ·exact absurd ⟨h2.1,h2.2 i (Nat.le_refl _) hq⟩ hno
    cases ok with
    |false=>exact bad true rfl (fun h=>by cases h.1)
    |
     true=>
     simp only[Bool.not_true,Bool.false_eq_true,if_false]
     by_cases h1:(List.length x.2.2.2.1:Int)≤nth (.int .i64) p.2.2.2.2.2.2.2.1 (i:Int)
     ·simp only[decide_eq_true h1,if_true,Option.bind_some]
      have:=bad true rfl (fun h=>absurd h.2.1 (Int.not_lt.2 h1))
      simpa using this
     ·have g2:nth (.int .i64) p.2.2.2.2.2.2.2.1 (i:Int)<(List.length x.2.2.2.1:Int):=Int.not_le.1 h1
      simp only[decide_eq_false h1,Bool.false_eq_true,if_false,if_pos hge,if_pos g2,if_pos hlv,Option.bind_some]
      by_cases h2:nth (.int .i64) x.2.2.2.1 (nth (.int .i64) p.2.2.2.2.2.2.2.1 (i:Int))=nth (.int .i64) p.2.2.2.2.2.2.2.2.1 (i:Int)
      ·have hh:EW p x.2.2.2.1 i:=⟨g2,h2⟩
       rw[if_neg (by simpa using h2)]
       obtain⟨wr',e,q⟩:=key wr (by omega) hq
       refine⟨wr',e,?_⟩
       rw[q]
       constructor
       ·rintro⟨q1,q2⟩
        refine⟨q1,Or.inr ⟨(by trivial),fun a a1 a2=>?_⟩⟩
        by_cases ha:a=i
        ·subst ha;exact hh
        ·rcases q2 with q2|q2
         ·omega
         ·exact q2.2 a (by omega) a2
       ·rintro⟨q1,q2|q2⟩
        ·omega
        ·exact⟨q1,Or.inr ⟨(by trivial),fun a a1 a2=>q2.2 a (by omega) a2⟩⟩
      ·have:=bad true rfl (fun h=>h2 h.2.2)
       rw[if_pos (by simpa using h2)]
       simpa using this
   ·have hi':i=p.2.2.2.2.2.2.2.1.length:=by omega
    have:¬((i:Int)<(p.2.2.2.2.2.2.2.1.length:Int)):=by omega
    refine⟨wr,by simp only[decide_eq_false this,Bool.false_eq_true,if_false],?_⟩
    constructor
    ·intro q;exact⟨q,Or.inl hi'⟩
    ·intro q;exact q.1
 obtain⟨wr,e,q⟩:=key (Int.toNat (p.2.2.2.2.2.2.2.1.length:Int)+1) 0 [] (by omega) (by omega) (by simp)
 refine⟨wr,?_,?_⟩
 ·unfold f24
  rw[Gb w _ _ _ _ _ hR hn h]
  simp only[Option.bind_some]
  erw[e]
  rfl
 ·rw[q]
  constructor
  ·rintro⟨_,q|q⟩
   ·exact Or.inl q.symm
   ·exact Or.inr ⟨q.1,fun a ha=>q.2 a (by omega) ha⟩
  ·rintro(q|q)
   ·exact⟨rfl,Or.inl q.symm⟩
   ·exact⟨rfl,Or.inr ⟨q.1,fun a _ ha=>q.2 a ha⟩⟩
end Go.Proofs.YtadeibjelmcdgaaGreat
