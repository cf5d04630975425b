/- Whether a world and a past are small, whether a schema is derived, keys: the printed functions answer. No condition. -/
import Derived.Test.YtadeibjelmcdgaaGreatS2
import Derived.Test.YtadeibjelmcdgaaGreatA5
noncomputable section
namespace Go.Proofs.YtadeibjelmcdgaaGreat
open Go.Ax
theorem ko{i n:Nat}(h:i<n)(hn:n≤aF):bM ((i:Int)+1)=((i+1:Nat):Int):=eB (by have:aF=140737488355328:=rfl;omega)
theorem rN(b:dr)(h:b.2.2.1.length≤aF):mN dQ ((0:Int),b)=some (.brk b)∨∃r,mN dQ ((0:Int),b)=some (.ret r):=by
 have key:=i6 (L:=mN) rfl b.2.2.1.length (fun i=>((i:Int),b)) b (fun _=>True) (fun _:Bool=>True) ?step ?stop dQ (i1 h)
 ·rcases key with⟨_,h⟩|⟨r,_,h⟩
  ·exact Or.inl h
  ·exact Or.inr ⟨r,h⟩
 case step=>
  intro rec i hi
  have Ru:(i:Int)<(b.2.2.1.length:Int):=by omega
  have h0:(0:Int)≤(i:Int):=Int.natCast_nonneg i
  simp only[decide_eq_true Ru,if_true,if_pos h0,if_pos Ru,ko hi h]
  by_cases h1:(6:Int)<(List.length ((((((nth db b.2.2.1 (i:Int)).2).2).2).2).1):Int)
  ·right;exact⟨false,trivial,by simp[h1,ei]⟩
  ·by_cases h2:(4:Int)<(List.length (((((((nth db b.2.2.1 (i:Int)).2).2).2).2).2).1):Int)
   ·right;exact⟨false,trivial,by simp[h1,h2,ei]⟩
   ·left;exact⟨trivial,by simp[h1,h2]⟩
 case stop=>
  intro rec
  simp
theorem rO(b:dr)(h:b.2.2.2.1.length≤aF):mO dQ ((0:Int),b)=some (.brk b)∨∃r,mO dQ ((0:Int),b)=some (.ret r):=by
 have key:=i6 (L:=mO) rfl b.2.2.2.1.length (fun i=>((i:Int),b)) b (fun _=>True) (fun _:Bool=>True) ?step ?stop dQ (i1 h)
 ·rcases key with⟨_,h⟩|⟨r,_,h⟩
  ·exact Or.inl h
  ·exact Or.inr ⟨r,h⟩
 case step=>
  intro rec i hi
  have Ru:(i:Int)<(b.2.2.2.1.length:Int):=by omega
  have h0:(0:Int)≤(i:Int):=Int.natCast_nonneg i
  simp only[decide_eq_true Ru,if_true,if_pos h0,if_pos Ru,ko hi h]
  by_cases h1:(4:Int)<(List.length ((((nth fm b.2.2.2.1 (i:Int)).2).2).1):Int)
  ·right;exact⟨false,trivial,by simp[h1,ei]⟩
  ·by_cases h2:(5:Int)<(List.length (((((nth fm b.2.2.2.1 (i:Int)).2).2).2).1):Int)
   ·right;exact⟨false,trivial,by simp[h1,h2,ei]⟩
   ·by_cases h3:(6:Int)<(List.length ((((((nth fm b.2.2.2.1 (i:Int)).2).2).2).2).1):Int)
    ·right;exact⟨false,trivial,by simp[h1,h2,h3,ei]⟩
    ·left;exact⟨trivial,by simp[h1,h2,h3]⟩
 case stop=>
  intro rec
  simp
theorem qh(b:dr)(h:b.2.2.2.2.1.length≤aF):kS dQ ((0:Int),b)=some (.brk b)∨∃r,kS dQ ((0:Int),b)=some (.ret r):=by
 have key:=i6 (L:=kS) rfl b.2.2.2.2.1.length (fun i=>((i:Int),b)) b (fun _=>True) (fun _:Bool=>True) ?step ?stop dQ (i1 h)
 ·rcases key with⟨_,h⟩|⟨r,_,h⟩
  ·exact Or.inl h
  ·exact Or.inr ⟨r,h⟩
 case step=>
  intro rec i hi
  have Ru:(i:Int)<(b.2.2.2.2.1.length:Int):=by omega
  have h0:(0:Int)≤(i:Int):=Int.natCast_nonneg i
  simp only[decide_eq_true Ru,if_true,if_pos h0,if_pos Ru,ko hi h]
  by_cases h1:(6:Int)<(List.length ((((((nth fR b.2.2.2.2.1 (i:Int)).2).2).2).2).1):Int)
  ·right;exact⟨false,trivial,by simp[h1,ei]⟩
  ·left;exact⟨trivial,by simp[h1]⟩
 case stop=>
  intro rec
  simp
theorem qi(b:dr)(h:b.2.2.2.2.2.1.length≤aF):kT dQ ((0:Int),b)=some (.brk b)∨∃r,kT dQ ((0:Int),b)=some (.ret r):=by
 have key:=i6 (L:=kT) rfl b.2.2.2.2.2.1.length (fun i=>((i:Int),b)) b (fun _=>True) (fun _:Bool=>True) ?step ?stop dQ (i1 h)
 ·rcases key with⟨_,h⟩|⟨r,_,h⟩
  ·exact Or.inl h
  ·exact Or.inr ⟨r,h⟩
 case step=>
  intro rec i hi
  have Ru:(i:Int)<(b.2.2.2.2.2.1.length:Int):=by omega
  have h0:(0:Int)≤(i:Int):=Int.natCast_nonneg i
  simp only[decide_eq_true Ru,if_true,if_pos h0,if_pos Ru,ko hi h]
  by_cases h1:(10:Int)<(List.length (((nth ef b.2.2.2.2.2.1 (i:Int)).2).1):Int)
  ·right;exact⟨false,trivial,by simp[h1,ei]⟩
  ·left;exact⟨trivial,by simp[h1]⟩
 case stop=>
  intro rec
  simp
structure Rows(b:dr):Prop where
 Db:b.2.2.1.length≤aF
 rules:b.2.2.2.1.length≤aF
 Ao:b.2.2.2.2.1.length≤aF
 Ap:b.2.2.2.2.2.1.length≤aF
theorem Aq(b:dr)(h:Rows b):∃r,f106 b=some r:=by
 unfold f106
 rcases rN b h.Db with e|⟨r,e⟩<;>rw[e]
 rotate_left
 ·exact⟨r,rfl⟩
 rw[aR]
 rcases rO b h.rules with e|⟨r,e⟩<;>rw[e]
 rotate_left
 ·exact⟨r,rfl⟩
 rw[aR]
 rcases qh b h.Ao with e|⟨r,e⟩<;>rw[e]
 rotate_left
 ·exact⟨r,rfl⟩
 rw[aR]
 rcases qi b h.Ap with e|⟨r,e⟩<;>rw[e]
 rotate_left
 ·exact⟨r,rfl⟩
 rw[aR]
 repeat (first|exact⟨_,rfl⟩|split)
theorem Dc(t:BB)(h:Rows t.1):∃r,f64 t=some r:=by
 obtain⟨r,e⟩:=Aq t.1 h
 unfold f64
 rw[e]
 cases r<;>exact⟨_,rfl⟩
theorem Dd(w:bH)(h:Rows w.1.1):∃r,f40 w=some r:=by
 obtain⟨r,e⟩:=Dc w.1 h
 unfold f40
 rw[e]
 cases r<;>exact⟨_,rfl⟩
theorem De(w:bH)(h:Rows w.1.1):∃r,f16 w=some r:=by
 have key:=i6 (L:=Ch) rfl w.1.1.2.2.2.1.length (fun i=>((i:Int),w,w.1.1)) (w,w.1.1) (fun _=>True) (fun _:Bool=>True) ?step ?stop dQ (i1 h.rules)
 ·unfold f16
  rcases key with⟨_,e⟩|⟨r,_,e⟩
  ·erw[e]
   rw[aR]
   obtain⟨r,e⟩:=Dd w h
   simp only[e]
   cases r
   ·exact⟨_,rfl⟩
   ·simp only[Option.bind_some,if_true]
    split<;>exact⟨_,rfl⟩
  ·erw[e];exact⟨r,rfl⟩
 case step=>
  intro rec i hi
  have Ru:(i:Int)<(w.1.1.2.2.2.1.length:Int):=by omega
  have h0:(0:Int)≤(i:Int):=Int.natCast_nonneg i
  simp only[decide_eq_true Ru,if_true,if_pos h0,if_pos Ru,ko hi h.rules]
  by_cases h1:(3:Int)<(List.length ((((nth fm w.1.1.2.2.2.1 (i:Int)).2).2).1):Int)
  ·right;exact⟨false,trivial,by simp[h1,ei]⟩
  ·left;exact⟨trivial,by simp[h1]⟩
 case stop=>
  intro rec
  simp
theorem FQ(w:bH)(p:eY)(h:Rows w.1.1):∃r,f5 w [p]=some r∧(r=true→w.2.1.length≤30):=by
 have key:=i6 (L:=Fk) rfl 1 (fun i=>([p],(i:Int),w)) ([p],w) (fun _=>True) (fun r:Bool=>r=false) ?step ?stop dQ (by decide)
 ·unfold f5
  rcases key with⟨_,e⟩|⟨r,hp,e⟩
  ·erw[e]
   rw[aR]
   obtain⟨r,e⟩:=De w h
   simp only[e]
   cases r
   ·exact⟨_,rfl,fun h=>by cases h⟩
   ·simp only[Option.bind_some,if_true]
    split
    ·rename_i hc
     exact⟨_,rfl,fun _=>by have:=of_decide_eq_true hc;omega⟩
    ·exact⟨_,rfl,fun h=>by cases h⟩
  ·erw[e];exact⟨r,rfl,fun hr=>by subst hr;cases hp⟩
 case step=>
  intro rec i hi
  have:i=0:=by omega
  subst this
  by_cases h1:(16:Int)<(List.length p.2.2.2.2.2.2.2.1:Int)
  ·right;exact⟨false,rfl,by simp[h1,ei,nth]⟩
  ·by_cases h2:(16:Int)<(List.length p.2.2.2.2.2.2.2.2.1:Int)
   ·right;exact⟨false,rfl,by simp[h1,h2,ei,nth]⟩
   ·left;exact⟨trivial,by simp[h1,h2,nth,show bM 1=1 from rfl]⟩
 case stop=>
  intro rec
  simp
def nu(b:dr)(k:Int):Prop:=∀j,j<b.2.2.2.1.length→(nth fm b.2.2.2.1 (j:Int)).2.1≠k
theorem FR(b:dr)(k:Int)(h:Rows b):f6 b k=some true∨(f6 b k=some false∧nu b k):=by
 have key:=i6 (L:=Fl) rfl b.2.2.2.1.length (fun i=>(k,(i:Int),b)) () (fun j=>(nth fm b.2.2.2.1 (j:Int)).2.1≠k) (fun r:Bool=>r=true) ?step ?stop dQ (i1 h.rules)
 ·unfold f6
  rcases key with⟨h1,e⟩|⟨r,rfl,e⟩
  ·right;erw[e];exact⟨rfl,h1⟩
  ·left;erw[e];rfl
 case step=>
  intro rec i hi
  have Ru:(i:Int)<(b.2.2.2.1.length:Int):=by omega
  have h0:(0:Int)≤(i:Int):=Int.natCast_nonneg i
  simp only[decide_eq_true Ru,if_true,if_pos h0,if_pos Ru,ko hi h.rules]
  by_cases h1:(nth fm b.2.2.2.1 (i:Int)).2.1=k
  ·right;exact⟨true,rfl,by simp[h1,ei]⟩
  ·left;exact⟨h1,by simp[h1]⟩
 case stop=>
  intro rec
  simp
end Go.Proofs.YtadeibjelmcdgaaGreat
