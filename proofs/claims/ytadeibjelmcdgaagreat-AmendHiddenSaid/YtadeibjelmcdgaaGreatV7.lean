/- AmendHidden: the law's function gives true at every input. No condition. -/
import Derived.Test.YtadeibjelmcdgaaGreatV6
noncomputable section
namespace Go.Proofs.YtadeibjelmcdgaaGreat
open Go.Ax
theorem Df{w:bH}(h:wf bS w):Rows w.1.1:=⟨h.1.1.2.2.1.2.1,h.1.1.2.2.2.1.2.1,h.1.1.2.2.2.2.1.2.1,h.1.1.2.2.2.2.2.1.2.1⟩
theorem vN{w:bH}(h:wf bS w):CJ w.1.1:=by
 intro s h1 h2
 have Ru:s.toNat<w.1.1.2.2.1.length:=by omega
 have e:nth db w.1.1.2.2.1 s=w.1.1.2.2.1[s.toNat]:=by
  have:=ml (t:=db) Ru
  rwa [Int.toNat_of_nonneg h1] at this
 have hs:=h.1.1.2.2.1.2.2 _ (List.getElem_mem Ru)
 rw[←e] at hs
 exact hs.2.2.2.2.1.1
theorem Fits.after{w:bH}{q:eY}{f:aM}{k a:Int}(hF:CJ w.1.1)(hR:Rows w.1.1)(hf:f.1=gw q.2.2.1 q.2.2.2.1 q.2.2.2.2.1 a)(hi:0≤q.2.2.2.2.1∧q.2.2.2.2.1<4)(ha:1≤a∧a<12)
 (hk:∀x∈w.2.1,x.2.2.2.1<k) (hp:qn q) (Rw:∀j,j<q.2.2.2.2.2.2.2.1.length→nth (.int .i64) q.2.2.2.2.2.2.2.1 (j:Int)≠a)
 (h:Fits w q (k -1)):∀j,j<q.2.2.2.2.2.2.2.1.length→EW q (q.2.2.2.1::gO (plus w f) q.2.2.1 q.2.2.2.1 q.2.2.2.2.1 q.2.2.2.2.2.1 k 1 (bB w.1.1 q.2.2.1 -1)) j:=by
 intro j hj
 obtain⟨h1,h2⟩:=h.2.2 j hj
 have hn:=Rw j hj
 have h0:=hp.1 j hj
 generalize hF':nth (.int .i64) q.2.2.2.2.2.2.2.1 (j:Int)=F at h1 h2 hn h0
 have h0:(0:Int)≤F:=h0
 have hn:F≠a:=hn
 have h1:F<((q.2.2.2.1::gO w q.2.2.1 q.2.2.2.1 q.2.2.2.2.1 q.2.2.2.2.2.1 (k -1) 1 (bB w.1.1 q.2.2.1 -1)).length:Int):=h1
 have hpre:0≤q.2.2.1∧q.2.2.1<(w.1.1.2.2.1.length:Int)∧2≤bB w.1.1 q.2.2.1:=by
  obtain⟨r1,e1,g1⟩:=vR w.1.1 q.2.2.1 hR
  have hp0:=h.1
  unfold pre at hp0
  rw[e1] at hp0
  simp only[Option.getD_some,Bool.and_eq_true] at hp0
  exact g1 hp0.1.1.1
 have hn':=hF _ hpre.1 hpre.2.1
 obtain⟨g,rfl⟩:∃g:Nat,F=(g:Int):=⟨Int.toNat F,(Int.toNat_of_nonneg h0).symm⟩
 have hlen:g<bB w.1.1 q.2.2.1:=by
  have h3:(g:Int)<((q.2.2.2.1::gO w q.2.2.1 q.2.2.2.1 q.2.2.2.2.1 q.2.2.2.2.2.1 (k -1) 1 (bB w.1.1 q.2.2.1 -1)).length:Int):=h1
  have h4:(q.2.2.2.1::gO w q.2.2.1 q.2.2.2.1 q.2.2.2.2.1 q.2.2.2.2.2.1 (k -1) 1 (bB w.1.1 q.2.2.1 -1)).length=bB w.1.1 q.2.2.1:=by simp[gO];omega
  omega
 unfold EW
 rw[hF']
 have h5:(q.2.2.2.1::gO (plus w f) q.2.2.1 q.2.2.2.1 q.2.2.2.2.1 q.2.2.2.2.2.1 k 1 (bB w.1.1 q.2.2.1 -1)).length=bB w.1.1 q.2.2.1:=by simp[gO];omega
 refine⟨by rw[h5];exact Int.ofNat_lt.2 hlen,?_⟩
 rw[←h2]
 by_cases hg:g=0
 ·subst hg;rfl
 ·have e1:=rP (plus w f) q.2.2.1 q.2.2.2.1 q.2.2.2.2.1 q.2.2.2.2.2.1 k (bB w.1.1 q.2.2.1) g (by omega) hlen
  have e2:=rP w q.2.2.1 q.2.2.2.1 q.2.2.2.2.1 q.2.2.2.2.2.1 (k -1) (bB w.1.1 q.2.2.1) g (by omega) hlen
  rw[e1,e2]
  rw[yT w f _ _ _ _ k g (by rw[hf];exact Dp hi ⟨by omega,ha.2⟩ (by omega) (fun h=>hn h.symm)) hk]
theorem Dg{l:List aM}{x:aM}(h:x∈l):∃i,i<l.length∧nth aP l ((i:Nat):Int)=x:=by
 obtain⟨i,hi,rfl⟩:=List.mem_iff_getElem.1 h
 exact⟨i,hi,ml (t:=aP) hi⟩
theorem yM(a0:bH)(a1:eY)(a2:Int)(a3:aM)(hl:a1.2.2.2.2.2.2.2.1.length≤aF):
 (yi dQ (a2,(0:Int),a0,a1,a3)=some (.brk (a2,a0,a1,a3))∧∀j,j<a1.2.2.2.2.2.2.2.1.length→nth (.int .i64) a1.2.2.2.2.2.2.2.1 (j:Int)≠a2)∨yi dQ (a2,(0:Int),a0,a1,a3)=some (.ret true):=by
 have key:=i6 (L:=yi) rfl a1.2.2.2.2.2.2.2.1.length (fun i=>(a2,(i:Int),a0,a1,a3)) (a2,a0,a1,a3) (fun j=>nth (.int .i64) a1.2.2.2.2.2.2.2.1 (j:Int)≠a2) (fun r:Bool=>r=true) ?step ?stop dQ (i1 hl)
 ·rcases key with⟨h1,e⟩|⟨r,rfl,e⟩
  ·exact Or.inl ⟨e,h1⟩
  ·exact Or.inr e
 case step=>
  intro rec i hi
  have Ru:(i:Int)<(a1.2.2.2.2.2.2.2.1.length:Int):=by omega
  simp only[decide_eq_true Ru,if_true,if_pos (Int.natCast_nonneg i),if_pos Ru,ko hi hl]
  by_cases h1:nth (.int .i64) a1.2.2.2.2.2.2.2.1 (i:Int)=a2
  ·right;exact⟨true,rfl,by rw[if_pos (decide_eq_true h1)];rfl⟩
  ·left;exact⟨h1,by rw[if_neg (by simpa using h1)]⟩
 case stop=>
  intro rec
  simp
end Go.Proofs.YtadeibjelmcdgaaGreat
