/- The places by the reference: the same row. -/
import Derived.Test.YtmpdeifdnbhdiaaGreatDoorVC
namespace Go.Proofs.YtmpdeifdnbhdiaaGreatDoor
open Go.Abs Go.Sort
theorem BP(xs ys:List Int)(h1:xs.length=32)(h2:ys.length=32):∀(n i:Nat),i≤32→32<n+i→
 (∃c,iu xs ys n (i:Int)=some (.ret c)∧c=mn (xs.drop i) (ys.drop i))∨(iu xs ys n (i:Int)=some (.brk ())∧mn (xs.drop i) (ys.drop i)=false)
 |0,i,g1,g2=>by omega
 |
  n+1,i,g1,g2=>by
  by_cases hi:i<32
  ·have hx:i<xs.length:=by omega
   have hy:i<ys.length:=by omega
   have e1:nth (.int .u8) xs (i:Int)=xs[i]:=cS hx
   have e2:nth (.int .u8) ys (i:Int)=ys[i]:=cS hy
   have d1:xs.drop i=xs[i]::xs.drop (i+1):=List.drop_eq_getElem_cons hx
   have d2:ys.drop i=ys[i]::ys.drop (i+1):=List.drop_eq_getElem_cons hy
   rw[iu,if_pos (by simp;omega),if_pos (by omega),e1,e2,d1,d2]
   by_cases q:xs[i]=ys[i]
   ·rw[if_neg (by simp[q]),aE (by omega)]
    rcases BP xs ys h1 h2 n (i+1) (by omega) (by omega) with⟨c,k1,k2⟩|⟨k1,k2⟩
    ·left;exact⟨c,k1,by rw[k2];simp[mn,q]⟩
    ·right;exact⟨k1,by simp[mn,q,k2]⟩
   ·left
    rw[if_pos (by simp[q])]
    exact⟨_,rfl,by simp[mn,q]⟩
  ·right
   rw[iu,if_neg (by simp;omega)]
   refine⟨rfl,?_⟩
   rw[List.drop_of_length_le (by omega)];rfl
theorem v22(xs ys:List Int)(h1:xs.length=32)(h2:ys.length=32):f22 xs ys=some (mn xs ys):=by
 unfold f22
 rcases BP xs ys h1 h2 bC 0 (by omega) (by simp only[bC];omega) with⟨c,k1,k2⟩|⟨k1,k2⟩
 ·rw[show iu xs ys bC 0=_ from k1,cW,k2,List.drop_zero,List.drop_zero]
 ·rw[show iu xs ys bC 0=_ from k1,cW]
  simp only[List.drop_zero] at k2
  rw[k2]
section
variable{a0:aO} {N:Nat} {D:List aO} (hM:Mk a0 N D) (hN:N≤16)
include hM
theorem FZ{j:Nat}(h:j<N):(nth aD D (j:Int)).length=32∧f23 a0 (j:Int)=some (nth aD D (j:Int)):=by
 have hj:j<D.length:=by rw[hM.1];exact h
 have e:nth aD D (j:Int)=D[j]:=cS hj
 rw[e]
 exact⟨(hM.2 j hj).1.1,(hM.2 j hj).2⟩
def PM(n:Nat)(L:List Int):Prop:=∀x∈L,∃j:Nat,x=(j:Int)∧j<n
theorem KB(a1:Int){n:Nat}(hn:n<N){L:List Int}(hL:PM n L)(hl:L.length≤16):∀(d k fuel:Nat),L.length -k=d→k≤L.length→d<fuel→(∀(j:Nat)(h:j<L.length),j<k→lt D (n:Int) L[j]=false)→
 ∃m:Nat,nu a0 a1 (n:Int) L fuel (k:Int)=some (m:Int)∧m≤L.length∧(∀(j:Nat)(h:j<L.length),j<m→lt D (n:Int) L[j]=false)∧(∀h:m<L.length,lt D (n:Int) L[m]=true):=by
 intro d
 induction d with
 |
  zero=>
  intro k fuel hd hk hf hp
  cases fuel with
  |zero=>omega
  |
   succ fuel=>
   refine⟨k,?_,hk,hp,fun h=>by omega⟩
   rw[nu,if_neg (by simp;omega),cW,if_neg (by simp),cW]
 |
  succ d ih=>
  intro k fuel hd hk hf hp
  cases fuel with
  |zero=>omega
  |
   succ fuel=>
   have hk':k<L.length:=by omega
   obtain⟨x,ex,hx⟩:=hL L[k] (List.getElem_mem hk')
   obtain⟨p1,p2⟩:=FZ hM hn
   obtain⟨q1,q2⟩:=FZ hM (show x<N by omega)
   have e1:nth (.int .i64) L (k:Int)=L[k]:=cS hk'
   have Sg:lt D (n:Int) L[k]=mn (nth aD D (n:Int)) (nth aD D (x:Int)):=by
    rw[ex];unfold lt
    have:¬((n:Int)<(x:Int)):=by omega
    simp[this]
   rw[nu,if_pos (by simpa using hk'),p2,cW,if_pos (by omega),e1,ex,q2,cW,v22 _ _ p1 q1,cW,←Sg,cW]
   cases hc:lt D (n:Int) L[k] with
   |
    true=>
    rw[if_neg (by simp),cW]
    exact⟨k,rfl,hk,hp,fun _=>hc⟩
   |
    false=>
    rw[if_pos (by simp),cW]
    dsimp only
    rw[aE (by omega)]
    refine ih (k+1) fuel (by omega) (by omega) (by omega) ?_
    intro j hj hjk
    by_cases e:j=k
    ·subst e;exact hc
    ·exact hp j hj (by omega)
include hN in
theorem KC:∀(k fuel n:Nat)(L:List Int),N -n=k→n≤N→k<fuel→L.Perm (j7 n)→L.Pairwise (fun x y=>lt D y x=false)→
 ∃L':List Int,nv a0 (N:Int) fuel (n:Int) L=some L'∧L'.Perm (j7 N)∧L'.Pairwise (fun x y=>lt D y x=false):=by
 intro k
 induction k with
 |
  zero=>
  intro fuel n L hk hn hf hp hw
  cases fuel with
  |zero=>omega
  |
   succ fuel=>
   have:n=N:=by omega
   subst this
   exact⟨L,by rw[nv,if_neg (by simp)],hp,hw⟩
 |
  succ k ih=>
  intro fuel n L hk hn hf hp hw
  cases fuel with
  |zero=>omega
  |
   succ fuel=>
   have hlen:L.length=n:=by rw[hp.length_eq];simp[j7]
   have hlow:PM n L:=by
    intro x hx
    have:=hp.mem_iff.1 hx
    simp only[j7,List.mem_map,List.mem_range] at this
    obtain⟨y,hy,rfl⟩:=this
    exact⟨y,rfl,hy⟩
   obtain⟨m,h1,h2,h3,h4⟩:=KB hM (N:Int) (show n<N by omega) hlow (by omega) L.length 0 bC (by omega) (by omega) (by simp only[bC];omega) (by intro j _ hj;omega)
   have hrow:(L.take m++[(n:Int)])++L.drop m=L.take m++(n:Int)::L.drop m:=by simp
   have hpm:(L.take m++(n:Int)::L.drop m).Perm (j7 (n+1)):=by
    refine List.perm_middle.trans ?_
    rw[List.take_append_drop]
    have:j7 (n+1)=j7 n++[(n:Int)]:=by simp[j7,List.range_succ]
    rw[this]
    exact(List.Perm.cons _ hp).trans (List.perm_append_comm (l₁:=[(n:Int)]) (l₂:=j7 n))
   have hpw:(L.take m++(n:Int)::L.drop m).Pairwise (fun x y=>lt D y x=false):=by
    have hw':=hw
    rw[←List.take_append_drop m L,List.pairwise_append] at hw'
    obtain⟨w1,w2,w3⟩:=hw'
    rw[List.pairwise_append,List.pairwise_cons]
    have key:∀y∈L.drop m,lt D y (n:Int)=false:=by
     intro y hy
     obtain⟨j,hj,e⟩:=List.getElem_of_mem hy
     rw[List.getElem_drop] at e
     have hj':m+j<L.length:=by rw[List.length_drop] at hj;omega
     have hm:=h4 (by omega)
     cases hc:lt D y (n:Int) with
     |false=>rfl
     |
      true=>
      have t:=DS y (n:Int) _ hc hm
      by_cases q:j=0
      ·subst q
       simp only[Nat.add_zero] at e
       rw[e] at t
       rw[(swo (hM.ok hN)).irrefl] at t;cases t
      ·have:=(List.pairwise_iff_getElem.1 hw) m (m+j) (by omega) hj' (by omega)
       rw[e,t] at this;cases this
    refine⟨w1,⟨key,w2⟩,?_⟩
    intro x hx y hy
    rcases List.mem_cons.1 hy with rfl|hy
    ·obtain⟨j,hj,e⟩:=List.getElem_of_mem hx
     rw[List.getElem_take] at e
     rw[←e]
     exact h3 j (by rw[List.length_take] at hj;omega) (by rw[List.length_take] at hj;omega)
    ·exact w3 x hx y hy
   obtain⟨L',g1,g2,g3⟩:=ih fuel (n+1) _ (by omega) (by omega) (by omega) hpm hpw
   refine⟨L',?_,g2,g3⟩
   have tk:List.take (Int.toNat (m:Int) -0) (List.drop 0 L)=L.take m:=by simp
   have dr:List.take (L.length -Int.toNat (m:Int)) (List.drop (Int.toNat (m:Int)) L)=L.drop m:=by
    simp only[Int.toNat_natCast];exact List.take_of_length_le (by simp)
   rw[nv,if_pos (by simpa using by omega),show nu a0 (N:Int) (n:Int) L bC 0=_ from h1,cW,if_pos (by omega),tk,dr]
   rw[if_pos (by simp only[List.length_nil,List.length_take,az];omega),if_pos (by simp only[List.length_cons,List.length_nil,List.length_take,az];omega),if_pos (by simp only[List.length_append,List.length_cons,List.length_nil,List.length_take,List.length_drop,az];omega),cW,aE (by omega),hrow]
   exact g1
end
theorem QF{a0:aO}(ha:Dg a0)(a1:Int):∃r:List Int×Int,f6 a0 a1=some r∧f7 a0 a1=some r∧r.1.length≤16:=by
 by_cases h:1≤a1∧a1≤16
 ·obtain⟨n,rfl⟩:=Int.eq_ofNat_of_zero_le (show 0≤a1 by omega)
  obtain⟨D,hM,e⟩:=w6 ha n (by omega) (by omega)
  have hn:n≤16:=by omega
  obtain⟨L,g1,g2,g3⟩:=KC hM hn n bC 0 [] (by omega) (by omega) (by simp only[bC];omega) (by simp[j7]) List.Pairwise.nil
  have ss:=(sort_sorts (lt D) (swo (hM.ok hn)) (j7 n).toArray)
  have Sd:(Go.Sort.sort (lt D) (j7 n).toArray).size=(j7 n).toArray.size:=ss.1.1
  have hperm:=ss.1.2.2
  have e1:((j7 n).toArray.extract 0 (j7 n).toArray.size).toList=j7 n:=by simp
  have e2:((Go.Sort.sort (lt D) (j7 n).toArray).extract 0 (j7 n).toArray.size).toList=(Go.Sort.sort (lt D) (j7 n).toArray).toList:=by rw[←Sd];simp
  rw[e1,e2] at hperm
  have hpw:(Go.Sort.sort (lt D) (j7 n).toArray).toList.Pairwise (fun x y=>lt D y x=false):=by
   rw[List.pairwise_iff_getElem]
   intro i j hi hj hij
   have hi':i<(Go.Sort.sort (lt D) (j7 n).toArray).size:=by simpa using hi
   have hj':j<(Go.Sort.sort (lt D) (j7 n).toArray).size:=by simpa using hj
   have:=ss.2 i j (Nat.zero_le _) hij (by rw[←Sd];exact hj')
   rw[getElem!_pos _ i hi',getElem!_pos _ j hj'] at this
   simpa using this
  have heq:(Go.Sort.sort (lt D) (j7 n).toArray).toList=L:=
   List.Perm.eq_of_pairwise (fun a b _ _ p q=>DR (hM.ok hn) a b q p) hpw g3 (hperm.trans g2.symm)
  refine⟨_,e,?_,?_⟩
  ·unfold f7
   rw[if_neg (by simpa using by omega),cW,if_neg (by simpa using by omega),cW]
   dsimp only
   rw[show nv a0 (n:Int) bC 0 []=_ from g1,cW,heq]
  ·rw[heq];rw[g2.length_eq];simp[j7];omega
 ·refine⟨([],200),?_,?_,by simp⟩
  ·unfold f6
   by_cases q:a1<1
   ·rw[if_pos (by simpa using q),cW];rfl
   ·rw[if_neg (by simpa using q),cW,if_pos (by simp;omega),cW]
  ·unfold f7
   by_cases q:a1<1
   ·rw[if_pos (by simpa using q),cW];rfl
   ·rw[if_neg (by simpa using q),cW,if_pos (by simp;omega),cW]
end Go.Proofs.YtmpdeifdnbhdiaaGreatDoor
