/- Keys; lists of facts that are valid and in order; a further fact. No condition. -/
import Derived.Test.YtadeibjelmcdgaaGreatV1
noncomputable section
namespace Go.Proofs.YtadeibjelmcdgaaGreat
open Go.Ax
theorem vH(a b:Int):∃r,f17 a b=some r∧(r=true↔0≤a∧a<4096∧0≤b∧b<4):=by
 unfold f17
 by_cases h1:0≤a
 ·by_cases h2:a<4096
  ·by_cases h3:0≤b
   ·simp[h1,h2,h3]
   ·simp[h1,h2,h3]
  ·simp[h1,h2]
 ·simp[h1]
def gw(k p i f:Int):aW:=(k,(p,(bM ((bM ((16:Int)*i))+f),())))
theorem Ai(k p i f:Int):f18 k p i f=some (gw k p i f):=rfl
theorem FI(k p i f:Int):f7 k p i f=some ((0:Int),((0:Int),((0:Int),())))∨(f7 k p i f=some (gw k p i f)∧0≤k∧k<16∧0≤p∧p<4096∧0≤i∧i<4∧0≤f∧f<12):=by
 obtain⟨r,e,hr⟩:=vH p i
 unfold f7
 by_cases h1:k<0
 ·left;simp[h1]
 ·by_cases h2:16≤k
  ·left;simp[h1,h2]
  ·cases r with
   |false=>left;simp[h1,h2,e]
   |
    true=>
    have:=hr.1 rfl
    by_cases h3:f<0
    ·left;simp[h1,h2,e,h3]
    ·by_cases h4:12≤f
     ·left;simp[h1,h2,e,h3,h4]
     ·right
      refine⟨by simp[h1,h2,e,h3,h4,Ai],?_⟩
      omega
def Good(Post:Prop)(x:Option Bool):Prop:=∃r,x=some r∧(r=true→Post)
theorem Good.ite{Post:Prop}{c:Prop}[Decidable c]{x y:Option Bool}(hx:c→Good Post x)(hy:Good Post y):Good Post (if c then x else y):=by
 split
 ·rename_i h;exact hx h
 ·exact hy
theorem Good.no{Post:Prop}:Good Post (some false):=⟨false,rfl,fun h=>by cases h⟩
theorem Good.oN{Post:Prop}{x:Option Bool}(h:Good Post x):Good Post (Option.bind x fun v=>some v):=by
 obtain⟨r,rfl,h⟩:=h;exact⟨r,rfl,h⟩
theorem vI(f:aM):Good (1≤f.2.2.2.1∧f.2.2.2.1≤16777216) (f20 f):=by
 unfold f20
 refine Good.oN ?_
 repeat refine Good.ite (fun _=>?_) Good.no
 exact⟨_,rfl,fun _=>by simp only[decide_eq_true_eq] at*;omega⟩
def Sorted(l:List aM):Prop:=∀j,1≤j→j<l.length→(nth aP l ((j -1:Nat):Int)).2.2.2.1≤(nth aP l (j:Int)).2.2.2.1
theorem C0{a b:aM}(h:¬0≤uh a b):a.2.2.2.1≤b.2.2.2.1:=by
 unfold uh at h
 split at h
 ·rename_i h0
  unfold ug at h0
  split at h0
  ·cases h0
  ·split at h0
   ·cases h0
   ·omega
 ·unfold ug at h
  split at h
  ·omega
  ·split at h<;>omega
theorem C1(l:List aM)(hl:l.length≤aF):∃e,f19 l=some e∧(e=0→Sorted l):=by
 have hm:aF=140737488355328:=rfl
 have k1:=i6 (L:=Ci) rfl l.length (fun i=>(l,l,(l.length:Int),(i:Int))) l (fun _=>True) (fun r:Int=>r=40) ?s1 ?t1 (Int.toNat (l.length:Int)+1) (by omega)
 ·have k2:=i6 (L:=Cj) rfl (l.length -1) (fun i=>(l,((i+1:Nat):Int))) () (fun j=>(nth aP l ((j:Nat):Int)).2.2.2.1≤(nth aP l ((j+1:Nat):Int)).2.2.2.1) (fun r:Int=>r=41) ?s2 ?t2 dQ (by have:=i1 hl;omega)
  ·unfold f19
   rcases k1 with⟨_,e⟩|⟨r,hr,e⟩
   ·erw[e]
    rw[aR]
    rcases k2 with⟨h,e⟩|⟨r,hr,e⟩
    ·erw[e]
     refine⟨0,rfl,fun _ j h1 h2=>?_⟩
     have:=h (j -1) (by omega)
     rwa [show j -1+1=j from by omega] at this
    ·erw[e];exact⟨r,rfl,fun h=>by omega⟩
   ·erw[e];exact⟨r,rfl,fun h=>by omega⟩
  case s2=>
   intro rec i hi
   have Ru:((i+1:Nat):Int)<(l.length:Int):=by omega
   have h0:(0:Int)≤((i+1:Nat):Int):=Int.natCast_nonneg _
   have hw:bM (((i+1:Nat):Int) -1)=(i:Int):=by rw[ik (by omega) (by omega)];omega
   have Sp:bM (((i+1:Nat):Int)+1)=((i+1+1:Nat):Int):=ko (n:=l.length) (by omega) hl
   have hlt2:(i:Int)<(l.length:Int):=by omega
   simp only[decide_eq_true Ru,if_true,hw,if_pos (Int.natCast_nonneg i),if_pos hlt2,if_pos h0,if_pos Ru,Sp,ui,Option.bind_some]
   by_cases h1:0≤uh (nth aP l (i:Int)) (nth aP l ((i+1:Nat):Int))
   ·right;exact⟨41,rfl,by rw[if_pos (decide_eq_true h1)];rfl⟩
   ·left;exact⟨C0 h1,by rw[if_neg (by simpa using h1)]⟩
  case t2=>
   intro rec
   have:¬(((l.length -1+1:Nat):Int)<(l.length:Int)):=by omega
   simp only[decide_eq_false this,Bool.false_eq_true,if_false]
 case s1=>
  intro rec i hi
  have Ru:(i:Int)<(l.length:Int):=by omega
  have h0:(0:Int)≤(i:Int):=Int.natCast_nonneg i
  obtain⟨r,e,_⟩:=vI (nth aP l (i:Int))
  simp only[decide_eq_true Ru,if_true,if_pos h0,if_pos Ru,ko hi hl,e,Option.bind_some]
  cases r
  ·right;exact⟨40,rfl,rfl⟩
  ·left;exact⟨trivial,rfl⟩
 case t1=>
  intro rec
  simp
theorem yK{l:List aM}(h:Sorted l):∀(d i:Nat),i+d<l.length→(nth aP l (i:Int)).2.2.2.1≤(nth aP l ((i+d:Nat):Int)).2.2.2.1:=by
 intro d
 induction d with
 |zero=>intro i _;exact Int.le_refl _
 |
  succ d ih=>
  intro i hi
  have h1:=ih i (by omega)
  have h2:=h (i+d+1) (by omega) (by omega)
  rw[show i+d+1 -1=i+d from by omega] at h2
  exact Int.le_trans h1 h2
theorem Aj(l:List aM)(f:aM)(hl:l.length≤30):
 ∃x e,f8 l f=some (x,e)∧(e=0→x=l++[f]∧1≤f.2.2.2.1∧f.2.2.2.1≤16777216∧Sorted l):=by
 have hm:aF=140737488355328:=rfl
 obtain⟨e1,h1,s1⟩:=C1 l (by omega)
 obtain⟨r,h2,s2⟩:=vI f
 unfold f8
 rw[h1,Option.bind_some]
 by_cases he:e1=0
 ·subst he
  rw[if_neg (by simp),h2,Option.bind_some]
  cases r
  ·exact⟨[],40,rfl,fun h=>by cases h⟩
  ·simp only[Bool.not_true,Bool.false_eq_true,if_false]
   have hc:∃b,(if(decide ((0:Int)<(List.length l:Int)))=true then(if 0≤(bM ((List.length l:Int) -(1:Int))) then(if(bM ((List.length l:Int) -(1:Int)))<(List.length l:Int) then(Option.bind (f21 (nth aP l (bM ((List.length l:Int) -(1:Int)))) f) fun y4=>some (decide ((0:Int)≤y4))) else none) else none) else(some false))=some b:=by
    by_cases h0:(0:Int)<(List.length l:Int)
    ·have hw:bM ((List.length l:Int) -1)=(List.length l:Int) -1:=ik (by omega) (by omega)
     rw[if_pos (decide_eq_true h0),hw,if_pos (by omega),if_pos (by omega),ui]
     exact⟨_,rfl⟩
    ·rw[if_neg (by simpa using h0)];exact⟨_,rfl⟩
   obtain⟨b,hb⟩:=hc
   rw[hb]
   cases b
   ·simp only[Option.bind_some,Bool.false_eq_true,if_false,aR,vf,List.length_nil,Nat.zero_add,List.length_cons]
    rw[if_pos (by omega)]
    simp only[Option.bind_some]
    rw[if_pos (by omega)]
    exact⟨_,_,rfl,fun _=>⟨rfl,(s2 rfl).1,(s2 rfl).2,s1 rfl⟩⟩
   ·exact⟨[],41,rfl,fun h=>by cases h⟩
 ·rw[if_pos (by simp[he])]
  exact⟨[],e1,rfl,fun h=>absurd h he⟩
end Go.Proofs.YtadeibjelmcdgaaGreat
