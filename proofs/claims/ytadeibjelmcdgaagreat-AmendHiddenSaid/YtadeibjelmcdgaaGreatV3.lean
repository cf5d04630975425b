/- Values of types; which schemas are recorded: the printed functions answer. No condition. -/
import Derived.Test.YtadeibjelmcdgaaGreatV2
noncomputable section
namespace Go.Proofs.YtadeibjelmcdgaaGreat
open Go.Ax
theorem qj{α:Type}(kt:Ty)(k:kt.den)(v:α):∀es:List (kt.den×α),(cj kt k v es).length≤es.length+1
 |[]=>by simp[cj]
 |
  e::es=>by
  simp only[cj]
  split
  ·simp
  ·simp only[List.length_cons];have:=qj kt k v es;omega
theorem Ar(l:List (List UInt8))(hl:l.length≤16):∃r,f114 l=some r:=by
 have hm:aF=140737488355328:=rfl
 have key:∀(n i:Nat)(d:List ((List UInt8)×Bool)),i≤l.length→l.length -i<n→d.length≤i→∃r,qk n (l,(l.length:Int),(i:Int),d)=some r:=by
  intro n
  induction n with
  |zero=>intro i d _ h;omega
  |
   succ n ih=>
   intro i d hi hn hd
   have key:=fun d(hd:d.length≤i+1)(h:i<l.length)=>ih (i+1) d (by omega) (by omega) hd
   unfold qk at key ⊢
   rw[bx]
   generalize aL _ n=rec at key ⊢
   by_cases h:i<l.length
   ·have Ru:(i:Int)<(l.length:Int):=by omega
    simp only[decide_eq_true Ru,if_true,if_pos (Int.natCast_nonneg i),if_pos Ru,ko h (by omega)]
    split
    ·exact⟨_,rfl⟩
    ·rw[if_pos (by omega)]
     have:=qj .str (nth .str l (i:Int)) true d
     exact key _ (by omega) h
   ·have:¬((i:Int)<(l.length:Int)):=by omega
    simp only[decide_eq_false this,Bool.false_eq_true,if_false]
    exact⟨_,rfl⟩
 obtain⟨r,e⟩:=key (Int.toNat (l.length:Int)+1) 0 [] (by omega) (by omega) (by simp)
 unfold f114
 erw[e]
 cases r<;>exact⟨_,rfl⟩
theorem As(t:zo)(n:Int):∃r,f110 t n=some r:=by
 unfold f110;repeat (first|exact⟨_,rfl⟩|split)
theorem Au(t:zo)(n:Int):∃r,f111 t n=some r:=by
 unfold f111;repeat (first|exact⟨_,rfl⟩|split)
theorem Av(t:zo)(n:Int):∃r,f112 t n=some r:=by
 unfold f112;repeat (first|exact⟨_,rfl⟩|split)
theorem Aw(t:zo)(n:Int):∃r,f113 t n=some r:=by
 unfold f113
 split
 ·split
  ·split
   ·split
    ·split
     ·rename_i h
      obtain⟨r,e⟩:=Ar t.2.2.2.2.2.1 (by have:=of_decide_eq_true h;omega)
      rw[e];exact⟨_,rfl⟩
     ·exact⟨_,rfl⟩
    ·exact⟨_,rfl⟩
   ·exact⟨_,rfl⟩
  ·exact⟨_,rfl⟩
 ·exact⟨_,rfl⟩
theorem Dj(c:cq)(t:zo):∃r,f46 c t=some r:=by
 unfold f46
 by_cases h1:t.1<1
 ·exact⟨false,by simp[h1,aG,ei]⟩
 ·by_cases h2:4<t.1
  ·exact⟨false,by simp[h1,h2,aG,ei]⟩
  ·simp only[decide_eq_false h1,decide_eq_false h2,Bool.false_eq_true,if_false,Option.bind_some,aR]
   rw[if_pos (by omega),if_pos (by omega),if_neg (by omega)]
   split
   ·obtain⟨r,e⟩:=As t (List.length c.1.2.1:Int);rw[e];exact⟨_,rfl⟩
   ·split
    ·obtain⟨r,e⟩:=Au t (List.length c.1.2.1:Int);rw[e];exact⟨_,rfl⟩
    ·split
     ·obtain⟨r,e⟩:=Av t (List.length c.1.2.1:Int);rw[e];exact⟨_,rfl⟩
     ·rw[if_pos (by omega)]
      obtain⟨r,e⟩:=Aw t (List.length c.1.2.1:Int);rw[e];exact⟨_,rfl⟩
theorem Dk(c:cq)(a b:Int):∃r,f45 c a b=some r:=by
 unfold f45
 by_cases h1:a<0
 ·exact⟨_,by simp only[decide_eq_true h1,if_true,Option.bind_some];rfl⟩
 ·by_cases h2:(List.length c.1.2.2.1:Int)≤a
  ·exact⟨_,by simp only[decide_eq_false h1,decide_eq_true h2,Bool.false_eq_true,if_false,if_true,Option.bind_some];rfl⟩
  ·by_cases h3:b<0
   ·exact⟨_,by simp only[decide_eq_false h1,decide_eq_false h2,decide_eq_true h3,Bool.false_eq_true,if_false,if_true,Option.bind_some];rfl⟩
   ·have g1:0≤a:=by omega
    have g2:a<(List.length c.1.2.2.1:Int):=by omega
    by_cases h4:(List.length ((((((nth db c.1.2.2.1 a).2).2).2).2).1):Int)≤b
    ·exact⟨_,by simp only[decide_eq_false h1,decide_eq_false h2,decide_eq_false h3,decide_eq_true h4,Bool.false_eq_true,if_false,if_true,if_pos g1,if_pos g2,Option.bind_some];rfl⟩
    ·have g3:0≤b:=by omega
     have g4:b<(List.length ((((((nth db c.1.2.2.1 a).2).2).2).2).1):Int):=by omega
     exact⟨_,by simp only[decide_eq_false h1,decide_eq_false h2,decide_eq_false h3,decide_eq_false h4,Bool.false_eq_true,if_false,if_pos g1,if_pos g2,Option.bind_some,aR,if_pos g3,if_pos g4];rfl⟩
theorem Dl(s:dr)(a b v:Int):∃r,f28 s a b v=some r:=by
 obtain⟨x,e⟩:=Dk (s,()) a b
 obtain⟨r,e2⟩:=Dj (s,()) x.2
 unfold f28
 rw[e,Option.bind_some]
 simp only[e2,Option.bind_some]
 repeat (first|exact⟨_,rfl⟩|split)
def Dm(s:dr)(a b v:Int):Bool:=(f28 s a b v).getD false
theorem FW(s:dr)(a b v:Int):f28 s a b v=some (Dm s a b v):=by
 obtain⟨r,e⟩:=Dl s a b v
 unfold Dm;rw[e];rfl
def bB(s:dr)(k:Int):Nat:=List.length ((((((nth db s.2.2.1 k).2).2).2).2).1)
theorem vR(s:dr)(k:Int)(h:Rows s):∃r,f25 s k=some r∧(r=true→0≤k∧k<(s.2.2.1.length:Int)∧2≤bB s k):=by
 have hm:aF=140737488355328:=rfl
 have key:∀(n i:Nat)(d:List (Int×Bool)),i≤s.2.2.2.1.length→s.2.2.2.1.length -i<n→d.length≤i→∃d',uF n (k,s.2.2.2.1,(s.2.2.2.1.length:Int),(i:Int),d)=some (.brk (k,d')):=by
  intro n
  induction n with
  |zero=>intro i d _ h;omega
  |
   succ n ih=>
   intro i d hi hn hd
   have key:=fun d(hd:d.length≤i+1)(h:i<s.2.2.2.1.length)=>ih (i+1) d (by omega) (by omega) hd
   unfold uF at key ⊢
   rw[bx]
   generalize aL _ n=rec at key ⊢
   have hr:=h.rules
   by_cases hlt':i<s.2.2.2.1.length
   ·have Ru:(i:Int)<(s.2.2.2.1.length:Int):=by omega
    simp only[decide_eq_true Ru,if_true,if_pos (Int.natCast_nonneg i),if_pos Ru,ko hlt' hr]
    rw[if_pos (by omega)]
    have:=qj (.int .i64) (((nth fm s.2.2.2.1 (i:Int)).2).1) true d
    exact key _ (by omega) hlt'
   ·have:¬((i:Int)<(s.2.2.2.1.length:Int)):=by omega
    simp only[decide_eq_false this,Bool.false_eq_true,if_false]
    exact⟨_,rfl⟩
 obtain⟨d',e⟩:=key (Int.toNat (s.2.2.2.1.length:Int)+1) 0 [] (by omega) (by omega) (by simp)
 unfold f25
 by_cases h1:k<0
 ·exact⟨false,by simp[h1,aG,ei],fun h=>by cases h⟩
 ·by_cases h2:(s.2.2.1.length:Int)≤k
  ·exact⟨false,by simp[h1,h2,aG,ei],fun h=>by cases h⟩
  ·have g1:0≤k:=by omega
   have g2:k<(s.2.2.1.length:Int):=by omega
   by_cases h3:(List.length ((((((nth db s.2.2.1 k).2).2).2).2).1):Int)<2
   ·exact⟨false,by simp only[decide_eq_false h1,decide_eq_false h2,Bool.false_eq_true,if_false,if_pos g1,if_pos g2,decide_eq_true h3,Option.bind_some,if_true];rfl,fun h=>by cases h⟩
   ·simp only[decide_eq_false h1,decide_eq_false h2,Bool.false_eq_true,if_false,if_pos g1,if_pos g2,decide_eq_false h3,Option.bind_some,aR]
    erw[e]
    exact⟨_,rfl,fun _=>⟨g1,g2,by unfold bB;omega⟩⟩
end Go.Proofs.YtadeibjelmcdgaaGreat
