/- RoundsPermute: the plain law. -/
import Derived.Test.YtmpdeifdnbhdiaaGreatDoorVA
namespace Go.Proofs.YtmpdeifdnbhdiaaGreatDoor
open Go.Abs Go.Sort
theorem jP{α:Type}{kt:Ty}(k:kt.den)(v:α):∀es:List (kt.den×α),(eU kt k v es).length≤es.length+1
 |[]=>by simp[eU]
 |
  e::es=>by
  simp only[eU]
  split
  ·simp
  ·simp only[List.length_cons];have:=jP k v es;omega
theorem Hp(n:Nat)(l:List Int)(hl:l.length≤1000)(hb:∀x∈l,0≤x∧x<(n:Int))(hnd:l.Nodup):∀(k fuel i:Nat)(es:List (Int×Bool)),l.length -i=k→i≤l.length→k<fuel→es.length≤i→(∀x:Int,fR (.int .i64) .bool x es=true→x∈l.take i)→
 lJ (n:Int) (l,0) fuel (i:Int) es=some (.brk ()):=by
 intro k
 induction k with
 |
  zero=>
  intro fuel i es hk hi hf he hm
  cases fuel with
  |zero=>omega
  |succ fuel=>rw[lJ,if_neg (by simpa using by omega)]
 |
  succ k ih=>
  intro fuel i es hk hi hf he hm
  cases fuel with
  |zero=>omega
  |
   succ fuel=>
   have hi':i<l.length:=by omega
   have e1:nth (.int .i64) l (i:Int)=l[i]:=gG hi'
   obtain⟨b1,b2⟩:=hb l[i] (List.getElem_mem hi')
   have hmi:fR (.int .i64) .bool l[i] es=false:=by
    cases h:fR (.int .i64) .bool l[i] es with
    |false=>rfl
    |
     true=>
     have:=hm _ h
     obtain⟨j,hj,hj2⟩:=List.getElem_of_mem this
     rw[List.getElem_take] at hj2
     have hj':j<i:=by simp only[List.length_take] at hj;omega
     have:=(List.getElem_inj hnd).1 hj2
     omega
   rw[lJ,if_pos (by simpa using hi'),if_pos (by dsimp only;omega)]
   dsimp only
   rw[e1,if_neg (by simpa using b1),if_neg (by simpa using b2),hmi,lD,if_neg (by simp),lD]
   dsimp only
   rw[if_pos (by simp only[aO];omega),lD]
   dsimp only
   rw[aK (by omega)]
   refine ih fuel (i+1) _ (by omega) (by omega) (by omega) (by have:=jP (kt:=.int .i64) l[i] true es;omega) ?_
   intro x hx
   rw[List.take_succ_eq_append_getElem hi',List.mem_append]
   by_cases e:x=l[i]
   ·right;simp[e]
   ·left
    rw[l8 (kt:=.int .i64) (vt:=.bool) rfl e] at hx
    exact hm x hx
theorem v4(a0:bz)(a1:Int):f4 a0 a1=some true:=by
 unfold f4
 rw[show f5=some true from rfl,lD,if_neg (by decide)]
 by_cases h:1≤a1∧a1≤16
 ·obtain⟨n,rfl⟩:=Int.eq_ofNat_of_zero_le (show 0≤a1 by omega)
  obtain⟨l,e,hp⟩:=Cx a0 n (by omega) (by omega)
  have hlen:l.length=n:=by rw[hp.length_eq];simp[sq]
  have hnd:l.Nodup:=by
   refine(hp.nodup_iff).2 ?_
   unfold sq
   refine List.Pairwise.map _ ?_ List.nodup_range
   intro a b hab h
   exact hab (Int.ofNat.inj h)
  have hb:∀x∈l,0≤x∧x<(n:Int):=by
   intro x hx
   have:=hp.mem_iff.1 hx
   simp only[sq,List.mem_map,List.mem_range] at this
   obtain⟨y,hy,rfl⟩:=this
   exact⟨by simp,by simpa using hy⟩
  have m:=Hp n l (by omega) hb hnd l.length (l.length+1) 0 [] (by omega) (by omega) (by omega) (by simp) (by intro x hx;simp[fR] at hx;cases hx)
  rw[e,lD,if_neg (by simp)]
  dsimp only
  rw[show lJ (n:Int) (l,0) (l.length+1) 0 []=_ from m,lD]
  simp[hlen]
 ·have e:f6 a0 a1=some ([],200):=by
   unfold f6
   by_cases q:a1<1
   ·rw[if_pos (by simpa using q),lD];rfl
   ·rw[if_neg (by simpa using q),lD,if_pos (by simp;omega),lD]
  rw[e,lD,if_pos (by decide),if_pos (by decide)]
  by_cases q:a1<1
  ·rw[if_pos (by simpa using q)];rfl
  ·rw[if_neg (by simpa using q),lD]
   simp;omega
theorem KH(a0:bz)(a1:Int)(_h0:wf aC a0)(_h1:wf (.int .i64) a1):f4 a0 a1=some true:=v4 a0 a1
end Go.Proofs.YtmpdeifdnbhdiaaGreatDoor
