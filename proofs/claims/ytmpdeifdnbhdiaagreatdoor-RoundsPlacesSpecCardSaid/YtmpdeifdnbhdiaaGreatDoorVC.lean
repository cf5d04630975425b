/- The marks of the places: the program's are the reference's. -/
import Derived.Test.YtmpdeifdnbhdiaaGreatDoorE2
import Derived.Test.YtmpdeifdnbhdiaaGreatDoorL7
import Derived.Test.YtmpdeifdnbhdiaaGreatDoorVA
namespace Go.Proofs.YtmpdeifdnbhdiaaGreatDoor
open Go.Abs Go.Sort
def Dg(x:List Int):Prop:=x.length=32∧gN x
theorem gN.set{l:List Int}(h:gN l)(i:Nat){v:Int}(hv:0≤v∧v<256):gN (List.set l i v):=by
 intro x hx
 rcases List.mem_or_eq_of_mem_set hx with hx|hx
 ·exact h x hx
 ·rw[hx];exact hv
theorem Jg(y:aQ):∃r,Dg r∧dY y (Int.toNat (32:Int)+1) (0:Int) (Ty.aX aD)=some r:=by
 have h:=lB (fun _(s:aO)=>Dg s) (fun(r:aO)=>Dg r) (fun n i s=>dY y n i s) 32
  (by
   intro n i s hi hj
   left
   have e1:Int.tdiv (i:Int) 4=((i / 4:Nat):Int):=rfl
   have e2:Int.tmod (i:Int) 4=((i % 4:Nat):Int):=rfl
   have e3:al ((i / 4:Nat):Int)=((i / 4:Nat):Int):=aN (by omega) (by omega)
   have e4:al ((8:Int)*((i % 4:Nat):Int))=8*((i % 4:Nat):Int):=aN (by omega) (by omega)
   have e5:al ((24:Int) -8*((i % 4:Nat):Int))=24 -8*((i % 4:Nat):Int):=aN (by omega) (by omega)
   refine⟨List.set s i (IntKind.u8.wrap (Int.fdiv (nth (.int .u32) y ((i / 4:Nat):Int)) (2^(min (Int.toNat (24 -8*((i % 4:Nat):Int))) 32)))),⟨by rw[List.length_set];exact hj.1,hj.2.set _ (xF _)⟩,?_⟩
   simp only[dY,e1,e2,e3,e4,e5,aE (show i≤_ by omega),Int.toNat_natCast]
   rw[if_pos (by rw[decide_eq_true_eq];omega),if_pos (by omega),if_pos (by omega),if_pos (by omega)])
  (by intro n s hs;exact⟨s,hs,by simp[dY]⟩) (Int.toNat 32+1) 0 (Ty.aX aD) (by omega) (by simp) ⟨rfl,by
   intro x hx
   have:x=0:=List.eq_of_mem_replicate (n:=32) hx
   omega⟩
 exact h
theorem d42(a0:List (List Int))(ha:a0.length≤1000)(hx:∀x∈a0,x.length≤1000)(hb:∀x∈a0,gN x):∃r,Dg r∧f42 a0=some r∧JI a0.flatten=some r:=by
 obtain⟨y,hy⟩:=t66 a0 ha hx [(1779033703:Int),(3144134277:Int),(1013904242:Int),(2773480762:Int),(1359893119:Int),(2600822924:Int),(528734635:Int),(1541459225:Int)]
 obtain⟨r,hr,e⟩:=Jg y
 have h:f42 a0=some r:=by unfold f42;rw[hy,bs,e,bs]
 exact⟨r,hr,h,by rw[←Q2 a0 ha hx hb];exact h⟩
theorem vY(s:List UInt8):gN (bytesOf s):=by
 intro x hx
 simp only[bytesOf,List.mem_map] at hx
 obtain⟨b,_,e⟩:=hx
 have:=b.toNat_lt
 omega
theorem Ep{x:List Int}(h:x.length=32):List.take (32 -0) (List.drop 0 x)=x:=by
 rw[List.drop_zero];exact List.take_of_length_le (by omega)
theorem OO{x:List Int}(h:x.length=32):aS x 0 32=x:=by
 unfold aS;exact Ep h
theorem d19(a0:List UInt8)(a1:List Int)(h0:a0.length≤1000)(h1:a1.length≤1000)(hb:gN a1):∃r,Dg r∧f19 a0 a1=some r∧f47 a0 a1=some r:=by
 obtain⟨y,hy,g1,g2⟩:=d42 [bytesOf a0] (by simp) (by simp[bytesOf];exact h0) (by simpa using vY a0)
 obtain⟨r,hr,k1,k2⟩:=d42 [y,a1] (by simp) (by simp[hy.1];exact h1) (by simp;exact⟨hy.2,hb⟩)
 refine⟨r,hr,?_,?_⟩
 ·unfold f19
  rw[g1,bs,OO hy.1,k1,bs]
 ·unfold f47
  simp only[List.flatten_cons,List.flatten_nil,List.append_nil] at g2 k2
  rw[g2,bs,Ep hy.1,if_pos (by simp[az,hy.1]),if_pos (by simp only[az,hy.1];omega),k2,bs]
def pb(i:Int):List Int:=[IntKind.u8.wrap (Int.fdiv i (2^(min (Int.toNat (24:Int)) 64))),IntKind.u8.wrap (Int.fdiv i (2^(min (Int.toNat (16:Int)) 64))),IntKind.u8.wrap (Int.fdiv i (2^(min (Int.toNat (8:Int)) 64))),IntKind.u8.wrap i]
theorem Jh(i:Int):gN (pb i):=by
 intro x hx
 simp only[pb,List.mem_cons,List.not_mem_nil,or_false] at hx
 rcases hx with h|h|h|h<;>(rw[h];exact xF _)
theorem d23{a0:aO}(ha:Dg a0)(i:Int):∃r,Dg r∧f19 [112,108,97,99,101] (a0++pb i)=some r∧f23 a0 i=some r:=by
 obtain⟨r,hr,g1,g2⟩:=d19 [112,108,97,99,101] (a0++pb i) (by simp) (by simp[ha.1,pb]) (ha.2.append (Jh i))
 refine⟨r,hr,g1,?_⟩
 unfold f23
 rw[Ep ha.1,if_pos (by simp only[List.length_nil,az,ha.1];omega),if_pos (by simp only[List.length_cons,List.length_nil,az,ha.1];omega)]
 exact(congrArg (Option.bind · fun y3=>some y3) g2).trans rfl
def Mk(a0:aO)(n:Nat)(D:List aO):Prop:=D.length=n∧∀(j:Nat)(h:j<D.length),Dg D[j]∧f23 a0 (j:Int)=some D[j]
theorem Le{a0:aO}(ha:Dg a0)(n:Nat)(hn:n≤16):∀(k fuel i:Nat)(D:List aO),n -i=k→i≤n→k<fuel→Mk a0 i D→
 ∃D':List aO,nA a0 (n:Int) fuel (i:Int) (j7 i) D=some (j7 n,D')∧Mk a0 n D':=by
 intro k
 induction k with
 |
  zero=>
  intro fuel i D hk hi hf hl
  cases fuel with
  |zero=>omega
  |
   succ fuel=>
   have:i=n:=by omega
   subst this
   exact⟨D,by rw[nA,if_neg (by simp)],hl⟩
 |
  succ k ih=>
  intro fuel i D hk hi hf hl
  cases fuel with
  |zero=>omega
  |
   succ fuel=>
   have hu:(j7 i).length=i:=by simp[j7]
   obtain⟨r,hr,h1,h2⟩:=d23 ha (i:Int)
   have hDl:=hl.1
   obtain⟨D',g1,g2⟩:=ih fuel (i+1) (D++[r]) (by omega) (by omega) (by omega) ⟨by simp[hl.1],by
    intro j hj
    rw[List.getElem_append]
    split
    ·rename_i q;exact hl.2 j q
    ·rename_i q
     have:j=i:=by simp at hj;omega
     subst this
     simp only[hl.1,Nat.sub_self,List.getElem_cons_zero]
     exact⟨hr,h2⟩⟩
   refine⟨D',?_,g2⟩
   rw[nA,if_pos (by simpa using by omega),Ep ha.1,if_pos (by simp only[List.length_nil,az,ha.1];omega),if_pos (by simp only[List.length_cons,List.length_nil,az,ha.1];omega)]
   refine(congrArg (Option.bind · _) h1).trans ?_
   rw[cW]
   rw[if_pos (by simp only[List.length_cons,List.length_nil,az];omega),if_pos (by simp only[List.length_cons,List.length_nil,az];omega),aE (by omega)]
   have hup:j7 i++[(i:Int)]=j7 (i+1):=by simp[j7,List.range_succ]
   rw[hup]
   exact g1
theorem Mk.ok{a0:aO}{n:Nat}{D:List aO}(h:Mk a0 n D)(hn:n≤16):Ok D:=by
 refine⟨by rw[h.1];exact hn,fun d hd=>?_⟩
 obtain⟨j,hj,e⟩:=List.getElem_of_mem hd
 rw[←e];exact(h.2 j hj).1.1
theorem w6{a0:aO}(ha:Dg a0)(n:Nat)(h1:1≤n)(hn:n≤16):∃(D:List aO),Mk a0 n D∧f6 a0 (n:Int)=some ((Go.Sort.sort (lt D) (j7 n).toArray).toList,0):=by
 obtain⟨D,g1,g2⟩:=Le ha n hn n (n+1) 0 [] (by omega) (by omega) (by omega) ⟨rfl,by intro j hj;simp at hj⟩
 have R9:=g2.ok hn
 have hrw:Rw D (j7 n).toArray:=by
  refine⟨by simp[j7];exact hn,fun i hi=>?_⟩
  have hi':i<n:=by simpa[j7] using hi
  have:(j7 n).toArray[i]! =(i:Int):=by
   rw[getElem!_pos _ i hi];simp[j7]
  rw[this]
  have:=g2.1
  exact⟨by omega,by omega⟩
 refine⟨D,g2,?_⟩
 unfold f6
 rw[if_neg (by simpa using by omega),cW]
 rw[if_neg (by simpa using by omega),cW]
 dsimp only
 rw[show Int.toNat (n:Int)+1=n+1 from rfl]
 rw[show nA a0 (n:Int) (n+1) 0 [] []=_ from g1,cW]
 dsimp only
 rw[show oG (j7 n) D=_ from v20 R9 hrw,cW]
 rfl
end Go.Proofs.YtmpdeifdnbhdiaaGreatDoor
