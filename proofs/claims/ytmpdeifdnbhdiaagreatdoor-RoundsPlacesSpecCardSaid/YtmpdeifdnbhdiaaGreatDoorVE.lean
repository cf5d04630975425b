/- Members: the program's are the reference's. -/
import Derived.Test.YtmpdeifdnbhdiaaGreatDoorVD
import Derived.Test.YtmpdeifdnbhdiaaGreatDoorVB
namespace Go.Proofs.YtmpdeifdnbhdiaaGreatDoor
open Go.Abs Go.Sort
def vC(es:List (Int×Int)):List Int:=es.map (·.1)
def mg(x:Int)(es:List (Int×Int)):Int:=fO (.int .i64) (.int .i64) x es
def ms(x v:Int)(es:List (Int×Int)):List (Int×Int):=eo (α:=Int) (.int .i64) x v es
theorem qW(x v:Int):∀es:List (Int×Int),vC (ms x v es)=if x∈vC es then vC es else vC es++[x]
 |[]=>by simp[vC,ms,eo]
 |
  e::es=>by
  have ih:=qW x v es
  simp only[ms,eo,dG (t:=.int .i64) rfl] at ih ⊢
  by_cases h:x=e.1
  ·simp[vC,h]
  ·simp only[h,if_false]
   simp only[vC,List.map_cons,List.mem_cons,h,false_or] at ih ⊢
   rw[ih]
   by_cases hx:x∈List.map (fun x=>x.1) es<;>simp[hx]
theorem zP(x v:Int)(es:List (Int×Int)):mg x (ms x v es)=v:=kE (kt:=.int .i64) (vt:=.int .i64) rfl x v es
theorem Iw{x y:Int}(h:y≠x)(v:Int)(es:List (Int×Int)):mg y (ms x v es)=mg y es:=mO (kt:=.int .i64) (vt:=.int .i64) rfl h v es
theorem zQ{x:Int}:∀{es:List (Int×Int)},x∉vC es→mg x es=0
 |[],_=>rfl
 |
  e::es,h=>by
  simp only[vC,List.map_cons,List.mem_cons,not_or] at h
  have:=zQ (es:=es) h.2
  simp only[mg,fO,dG (t:=.int .i64) rfl,h.1,if_false]
  exact this
structure Inv(p m:List Int)(es:List (Int×Int)):Prop where
 nd:(vC es).Nodup
 so:p.Pairwise (·<·)
 mem:∀x,x∈p↔x∈vC es
 val:m=p.map (fun x=>mg x es)
theorem NS{a0:List cY}{i:Nat}(hi:i<a0.length){p m:List Int}(hp:p.Pairwise (·<·))(hl:p.length≤1000):∀(d k fuel:Nat),p.length -k=d→k≤p.length→d<fuel→(∀(j:Nat)(h:j<p.length),j<k→p[j]<(nth aY a0 (i:Int)).1)→
 ∃o:Nat,lL a0 (i:Int) p m fuel (k:Int)=some (o:Int)∧o≤p.length∧(∀(j:Nat)(h:j<p.length),j<o→p[j]<(nth aY a0 (i:Int)).1)∧(∀h:o<p.length,¬p[o]<(nth aY a0 (i:Int)).1):=by
 intro d
 induction d with
 |
  zero=>
  intro k fuel hd hk hf hq
  cases fuel with
  |zero=>omega
  |
   succ fuel=>
   refine⟨k,?_,hk,hq,fun h=>by omega⟩
   rw[lL,if_neg (by simp;omega),cW,if_neg (by simp),cW]
 |
  succ d ih=>
  intro k fuel hd hk hf hq
  cases fuel with
  |zero=>omega
  |
   succ fuel=>
   have hk':k<p.length:=by omega
   have e1:nth (.int .i64) p (k:Int)=p[k]:=cS hk'
   rw[lL,if_pos (by simpa using hk'),if_pos (by omega),if_pos (by omega),e1,cW]
   by_cases hc:p[k]<(nth aY a0 (i:Int)).1
   ·rw[if_pos (by simpa using hc),cW]
    dsimp only
    rw[aE (by omega)]
    refine ih (k+1) fuel (by omega) (by omega) (by omega) ?_
    intro j hj hjk
    by_cases e:j=k
    ·subst e;exact hc
    ·exact hq j hj (by omega)
   ·rw[if_neg (by simpa using hc),cW]
    exact⟨k,rfl,hk,hq,fun _=>hc⟩
theorem Fu{a0:List cY}{i:Nat}(hi:i<a0.length){p m:List Int}{es:List (Int×Int)}(hl:p.length≤1000)(h:Inv p m es)(fuel:Nat):
 ∃p' m',kb a0 (fuel+1) (i:Int) p m=kb a0 fuel (al ((i:Int)+1)) p' m'∧Inv p' m' (ms (nth aY a0 (i:Int)).1 (al (mg (nth aY a0 (i:Int)).1 es+1)) es)∧p'.length≤p.length+1:=by
 obtain⟨o,e,h1,h2,h3⟩:=NS hi (m:=m) h.so hl p.length 0 bC (by omega) (by omega) (by simp only[bC];omega) (by intro j _ hj;omega)
 have hm:m.length=p.length:=by rw[h.val];simp
 obtain⟨x,hx⟩:∃x:Int,(nth aY a0 (i:Int)).1=x:=⟨_,rfl⟩
 simp only[hx] at h2 h3 ⊢
 have so:=List.pairwise_iff_getElem.1 h.so
 have front:∀y∈p.take o,y<x:=by
  intro y hy
  obtain⟨j,hj,e⟩:=List.getElem_of_mem hy
  rw[List.getElem_take] at e
  rw[←e];exact h2 j (by rw[List.length_take] at hj;omega) (by rw[List.length_take] at hj;omega)
 have back:∀y∈p.drop o,x≤y:=by
  intro y hy
  obtain⟨j,hj,e⟩:=List.getElem_of_mem hy
  rw[List.getElem_drop] at e
  rw[List.length_drop] at hj
  have:=h3 (by omega)
  by_cases q:j=0
  ·subst q;simp only[Nat.add_zero] at e;omega
  ·have:=so o (o+j) (by omega) (by omega) (by omega);omega
 have tk:List.take (Int.toNat (o:Int) -0) (List.drop 0 p)=p.take o:=by simp
 have tk':List.take (Int.toNat (o:Int) -0) (List.drop 0 m)=m.take o:=by simp
 have dr:List.take (p.length -Int.toNat (o:Int)) (List.drop (Int.toNat (o:Int)) p)=p.drop o:=by
  simp only[Int.toNat_natCast];exact List.take_of_length_le (by simp)
 have dr':List.take (m.length -Int.toNat (o:Int)) (List.drop (Int.toNat (o:Int)) m)=m.drop o:=by
  simp only[Int.toNat_natCast];exact List.take_of_length_le (by simp)
 have ci:decide ((i:Int)<(a0.length:Int))=true:=by simpa using hi
 by_cases hit:∃q:o<p.length,p[o]=x
 ·obtain⟨q,hq⟩:=hit
  have e1:nth (.int .i64) p (o:Int)=p[o]:=cS q
  have hxk:x∈vC es:=(h.mem x).1 (hq▸List.getElem_mem q)
  have qm:o<m.length:=by omega
  have e2:nth (.int .i64) m (o:Int)=mg x es:=by
   rw[show nth (.int .i64) m (o:Int)=m[o] from cS qm]
   simp only[h.val,List.getElem_map,hq]
  refine⟨p,List.set m o (al (mg x es+1)),?_,⟨?_,h.so,?_,?_⟩,by omega⟩
  ·rw[kb,if_pos ci,show lL a0 (i:Int) p m bC 0=_ from e,cW,if_pos (by simpa using q),if_pos (by omega),if_pos (by omega),hx,e1,hq,cW,if_pos (by simp),if_pos (by omega),cW]
   dsimp only
   rw[cW,e2,Int.toNat_natCast]
  ·rw[qW,if_pos hxk];exact h.nd
  ·intro y;rw[qW,if_pos hxk];exact h.mem y
  ·apply List.ext_getElem
   ·simp[hm]
   ·intro k sK hk2
    rw[List.getElem_set]
    simp only[List.getElem_map]
    simp only[List.length_map] at hk2
    split
    ·rename_i ek;subst ek;rw[hq,zP]
    ·rename_i ek
     have:p[k]≠x:=by
      intro ex
      rcases Nat.lt_or_gt_of_ne ek with g|g
      ·have:=so o k q hk2 g;omega
      ·have:=so k o hk2 q g;omega
     rw[Iw this]
     simp only[h.val,List.getElem_map]
 ·have hmiss:x∉p:=by
   intro hxp
   rw[←List.take_append_drop o p,List.mem_append] at hxp
   rcases hxp with hxp|hxp
   ·have:=front x hxp;omega
   ·obtain⟨j,hj,ej⟩:=List.getElem_of_mem hxp
    rw[List.getElem_drop] at ej
    rw[List.length_drop] at hj
    have q:o<p.length:=by omega
    have h3':=h3 q
    by_cases qj:j=0
    ·subst qj;exact hit ⟨q,ej⟩
    ·have:=so o (o+j) q (by omega) (by omega);omega
  have hxk:x∉vC es:=fun g=>hmiss ((h.mem x).2 g)
  have hrow:∀(l:List Int)(v:Int),(l.take o++[v])++l.drop o=l.take o++v::l.drop o:=by intro l v;simp
  refine⟨p.take o++x::p.drop o,m.take o++(1:Int)::m.drop o,?_,⟨?_,?_,?_,?_⟩,?_⟩
  ·have hit':(if decide ((o:Int)<(p.length:Int))=true then(if 0≤(o:Int)∧(o:Int)<(p.length:Int) then(if 0≤(i:Int)∧(i:Int)<(a0.length:Int) then some (decide (nth (.int .i64) p (o:Int)=x)) else none) else none) else some false)=some false:=by
    by_cases q:o<p.length
    ·have e1:nth (.int .i64) p (o:Int)=p[o]:=cS q
     rw[if_pos (by simpa using q),if_pos (by omega),if_pos (by omega),e1]
     have:¬p[o]=x:=fun g=>hit ⟨q,g⟩
     simp[this]
    ·rw[if_neg (by simpa using q)]
   rw[kb,if_pos ci,show lL a0 (i:Int) p m bC 0=_ from e,cW,hx,hit',cW,if_neg (by simp),cW]
   dsimp only
   rw[tk,tk',dr,dr']
   rw[if_pos (by omega),if_pos (by simp only[List.length_nil,List.length_take,az];omega),if_pos (by omega),if_pos (by simp only[List.length_cons,List.length_nil,List.length_take,az];omega),if_pos (by simp only[List.length_append,List.length_cons,List.length_nil,List.length_take,List.length_drop,az];omega)]
   rw[if_pos (by omega),if_pos (by simp only[List.length_nil,List.length_take,az];omega),if_pos (by simp only[List.length_cons,List.length_nil,List.length_take,az];omega),if_pos (by simp only[List.length_append,List.length_cons,List.length_nil,List.length_take,List.length_drop,az];omega),cW,hrow,hrow]
  ·rw[qW,if_neg hxk,List.nodup_append]
   refine⟨h.nd,by simp,?_⟩
   intro y hy z hz
   simp only[List.mem_singleton] at hz
   subst hz
   intro g;subst g;exact hxk hy
  ·have w:=h.so
   rw[←List.take_append_drop o p,List.pairwise_append] at w
   obtain⟨w1,w2,w3⟩:=w
   rw[List.pairwise_append,List.pairwise_cons]
   refine⟨w1,⟨?_,w2⟩,?_⟩
   ·intro y hy
    have:=back y hy
    have:x≠y:=fun g=>hmiss (by rw[g];exact List.mem_of_mem_drop hy)
    omega
   ·intro y hy z hz
    rcases List.mem_cons.1 hz with rfl|hz
    ·exact front y hy
    ·exact w3 y hy z hz
  ·intro y
   rw[qW,if_neg hxk,List.mem_append,List.mem_append,List.mem_cons,List.mem_singleton,←h.mem y]
   have:y∈p↔y∈p.take o∨y∈p.drop o:=by
    conv=>lhs;rw[←List.take_append_drop o p]
    exact List.mem_append
   rw[this]
   constructor
   ·rintro(g|g|g)
    ·exact Or.inl (Or.inl g)
    ·exact Or.inr g
    ·exact Or.inl (Or.inr g)
   ·rintro((g|g)|g)
    ·exact Or.inl g
    ·exact Or.inr (Or.inr g)
    ·exact Or.inr (Or.inl g)
  ·have R7:∀l:List Int,(∀y∈l,y∈p)→l.map (fun y=>mg y (ms x (al (mg x es+1)) es))=l.map (fun y=>mg y es):=by
    intro l hl
    apply List.map_congr_left
    intro y hy
    exact Iw (fun g=>hmiss (by rw[←g];exact hl y hy)) _ _
   rw[List.map_append,List.map_cons,R7 _ (fun y hy=>List.mem_of_mem_take hy),R7 _ (fun y hy=>List.mem_of_mem_drop hy),zP,zQ hxk,h.val,List.map_take,List.map_drop]
   rfl
  ·simp only[List.length_append,List.length_cons,List.length_take,List.length_drop];omega
theorem J1(a0:List cY)(hl:a0.length≤1000):∀(k f g i:Nat)(p m:List Int)(es:List (Int×Int)),a0.length -i=k→i≤a0.length→k<f→k<g→p.length≤i→es.length≤i→Inv p m es→
 ∃p' m' SD,kb a0 f (i:Int) p m=some (p',m')∧ny a0 g (i:Int) es=some SD∧Inv p' m' SD∧p'.length≤a0.length∧SD.length≤a0.length:=by
 intro k
 induction k with
 |
  zero=>
  intro f g i p m es hk hi hf hg h1 h2 hI
  cases f with
  |zero=>omega
  |
   succ f=>
   cases g with
   |zero=>omega
   |succ g=>exact⟨p,m,es,by rw[kb,if_neg (by simp;omega)],by rw[ny,if_neg (by simp;omega)],hI,by omega,by omega⟩
 |
  succ k ih=>
  intro f g i p m es hk hi hf hg h1 h2 hI
  cases f with
  |zero=>omega
  |
   succ f=>
   cases g with
   |zero=>omega
   |
    succ g=>
    have hi':i<a0.length:=by omega
    obtain⟨p1,m1,e1,I1,l1⟩:=Fu hi' (by omega) hI f
    have l2:=kq (kt:=.int .i64) (nth aY a0 (i:Int)).1 (al (mg (nth aY a0 (i:Int)).1 es+1)) es
    obtain⟨p',m',SD,g1,g2,g3⟩:=ih f g (i+1) p1 m1 (ms (nth aY a0 (i:Int)).1 (al (mg (nth aY a0 (i:Int)).1 es+1)) es) (by omega) (by omega) (by omega) (by omega) (by omega) (by unfold ms;omega) I1
    refine⟨p',m',SD,?_,?_,g3⟩
    ·rw[e1,aE (by omega)];exact g1
    ·rw[ny,if_pos (by simpa using hi'),if_pos (by omega),if_pos (by simp only[az];omega),aE (by omega)]
     exact g2
theorem NT(es:List (Int×Int))(ys:List Int)(hl:ys.length≤1000):∀(k fuel i:Nat)(acc:List Int),ys.length -i=k→i≤ys.length→k<fuel→acc.length=i→nz es ys fuel (i:Int) acc=some (acc++(ys.drop i).map (fun x=>mg x es)):=by
 intro k
 induction k with
 |
  zero=>
  intro fuel i acc hk hi hf ha
  cases fuel with
  |zero=>omega
  |
   succ fuel=>
   rw[nz,if_neg (by simp;omega),List.drop_of_length_le (by omega)];simp
 |
  succ k ih=>
  intro fuel i acc hk hi hf ha
  cases fuel with
  |zero=>omega
  |
   succ fuel=>
   have hi':i<ys.length:=by omega
   have e1:nth (.int .i64) ys (i:Int)=ys[i]:=cS hi'
   rw[nz,if_pos (by simpa using hi'),if_pos (by omega),if_pos (by simp only[List.length_cons,List.length_nil,az];omega),aE (by omega),ih fuel (i+1) _ (by omega) (by omega) (by omega) (by simp[ha]),e1,List.drop_eq_getElem_cons hi',List.map_cons,List.append_assoc]
   rfl
theorem Q6(a0:List cY)(hl:a0.length≤1000):∃r:List Int×List Int,f8 a0=some r∧f9 a0=some r∧r.1.length≤1000∧r.2.length≤1000:=by
 obtain⟨p,m,es,g1,g2,hI,l1,l2⟩:=J1 a0 hl a0.length bC (a0.length+1) 0 [] [] [] (by omega) (by omega) (by simp only[bC];omega) (by omega) (by simp) (by simp) ⟨by simp[vC],List.Pairwise.nil,by simp[vC],rfl⟩
 have hs:gK es=p:=by
  have cX:(gK es).Perm (vC es):=List.mergeSort_perm _ _
  have hpn:p.Nodup:=hI.so.imp (fun h=>by omega)
  have nC:(vC es).Perm p:=(List.perm_ext_iff_of_nodup hI.nd hpn).2 (fun a=>(hI.mem a).symm)
  refine List.Perm.eq_of_pairwise (le:=fun x y=>x≤y) (fun a b _ _ h1 h2=>by omega) ?_ (hI.so.imp (fun h=>by omega)) (cX.trans nC)
  have:=List.pairwise_mergeSort (le:=fun(x y:Int)=>decide (x≤y)) (by intro a b c;simp only[decide_eq_true_eq];omega) (by intro a b;simp only[Bool.or_eq_true,decide_eq_true_eq];omega) (vC es)
  exact this.imp (fun h=>by simpa using h)
 refine⟨(p,m),?_,?_,by simp;omega,by rw[hI.val];simp;omega⟩
 ·unfold f8
  rw[show ny a0 (a0.length+1) 0 []=_ from g2,cW]
  unfold qV uP rk
  rw[cW,if_pos (by simp only[az];omega),cW,hs]
  rw[show nz es p (p.length+1) 0 []=_ from NT es p (by omega) p.length (p.length+1) 0 [] (by omega) (by omega) (by omega) rfl,cW,List.nil_append,List.drop_zero,←hI.val]
 ·unfold f9
  rw[show kb a0 bC 0 [] []=_ from g1,cW]
end Go.Proofs.YtmpdeifdnbhdiaaGreatDoor
