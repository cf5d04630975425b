/- part -/
import Derived.Test.YtgdcjlldafmomaaGreatP1
import Derived.Test.YtgdcjlldafmomaaGreatUL
import Derived.Test.YtgdcjlldafmomaaGreatA5
import Derived.Test.YtgdcjlldafmomaaGreatFD
import Derived.Test.YtgdcjlldafmomaaGreatS2
noncomputable section
namespace Go.Proofs.YtgdcjlldafmomaaGreat
open Go.Ax
theorem kindB_unit{t:jg}{n:Int}(h:f177 t n=some true):t.2.2.2.2.1= -1:=by
 unfold f177 at h
 obtain⟨v,hv,h⟩:=bind_some h
 cases h
 split at hv
 ·split at hv
  ·split at hv
   ·rename_i e;exact jL e
   ·cases hv
  ·cases hv
 ·cases hv
theorem kindC_unit{t:jg}{n:Int}(h:f178 t n=some true):t.2.2.2.2.1= -1:=by
 unfold f178 at h
 obtain⟨v,hv,h⟩:=bind_some h
 cases h
 split at hv
 ·split at hv
  ·split at hv
   ·rename_i e;exact jL e
   ·cases hv
  ·cases hv
 ·cases hv
theorem kindD_unit{t:jg}{n:Int}(h:f179 t n=some true):t.2.2.2.2.1= -1:=by
 unfold f179 at h
 obtain⟨v,hv,h⟩:=bind_some h
 cases h
 split at hv
 ·split at hv
  ·split at hv
   ·rename_i e;exact jL e
   ·cases hv
  ·cases hv
 ·cases hv
theorem idB{x:Zl}{b:Bool}(h:(Option.bind x fun y=>some y)=some b):x=some b:=by
 cases x with
 |none=>cases h
 |some a=>exact h
theorem typeOK_lt{c:dt}{t:jg}(h:f79 c t=some true):t.2.2.2.2.1<(c.1.2.1.length:Int):=by
 have neg:t.2.2.2.2.1= -1→t.2.2.2.2.1<(c.1.2.1.length:Int):=fun e=>by omega
 by_cases e1:t.1=1
 ·exact(typeOK_unit h e1).2
 ·unfold f79 at h
  by_cases h1:t.1<1
  ·rw[cH h1] at h;cases h
  ·by_cases h2:(4:Int)<t.1
   ·rw[aC (by simpa using h1),cu h2] at h;cases h
   ·rw[aC (by simpa using h1),dz h2,aJ,aC (by decide),aH] at h
    dsimp only at h
    rw[aA (by omega),aA (by omega),aC (by omega),aC e1] at h
    by_cases e2:t.1=2
    ·rw[aA e2] at h;exact neg (kindB_unit (idB h))
    ·rw[aC e2] at h
     by_cases e3:t.1=3
     ·rw[aA e3] at h;exact neg (kindC_unit (idB h))
     ·rw[aC e3,aA (by omega)] at h;exact neg (kindD_unit (idB h))
theorem usable_ans(c:dt)(hN:NB c.1)(r:nL):∃b y,f220 c r=some (b,y)∧(b=true→y.2.2.2.2.1<(c.1.2.1.length:Int)):=by
 unfold f220
 rcases typeOf_eq c r.2.2.1 r.2.2.2.1 with⟨hi,e⟩|⟨_,y,e⟩
 ·rw[e,aJ]
  dsimp only
  rw[aC (by decide)]
  have hm:=hi.mem
  obtain⟨q,hq⟩:=typeOK_ans c (nth dY (flds c.1 r.2.2.1) r.2.2.2.1).2.1 ((hN _ hm.1).2 _ hm.2)
  rw[hq,aJ]
  cases q with
  |false=>exact⟨false,_,rfl,fun h=>(by cases h)⟩
  |
   true=>
   rw[aC (by decide)]
   have hu:=typeOK_lt hq
   by_cases h0:0≤(nth dY (flds c.1 r.2.2.1) r.2.2.2.1).2.1.2.2.2.2.1
   ·rw[cH h0,aA h0,aA hu]
    obtain⟨z,hz⟩:=unitOK_ans c (nth aS c.1.2.1 (nth dY (flds c.1 r.2.2.1) r.2.2.2.1).2.1.2.2.2.2.1)
    rw[hz,aJ]
    cases z with
    |false=>exact⟨false,_,rfl,fun h=>(by cases h)⟩
    |true=>exact⟨true,_,rfl,fun _=>hu⟩
   ·rw[aC (show¬decide ((0:Int)≤(nth dY (flds c.1 r.2.2.1) r.2.2.2.1).2.1.2.2.2.2.1)=true by simpa using h0)]
    exact⟨true,_,rfl,fun _=>hu⟩
 ·rw[e,aJ]
  exact⟨false,_,rfl,fun h=>(by cases h)⟩
theorem base_ans(s:cz)(hN:NB s)(r:nL)(n:Int):∃p,f217 s r n=some p:=by
 unfold f217
 obtain⟨b,y,e,hu⟩:=usable_ans (s,()) hN r
 rw[e,aJ]
 dsimp only
 cases b with
 |false=>exact⟨_,rfl⟩
 |
  true=>
  rw[aC (by decide)]
  by_cases h1:n<0
  ·rw[cH h1];exact⟨_,rfl⟩
  ·rw[aC (show¬decide (n<(0:Int))=true by simpa using h1)]
   by_cases h2:(1048576:Int)<n
   ·rw[cu h2];exact⟨_,rfl⟩
   ·rw[dz h2,aJ,aC (by decide),aH]
    dsimp only
    by_cases h0:0≤y.2.2.2.2.1
    ·rw[cH h0,aA h0,aA (hu rfl)];exact⟨_,rfl⟩
    ·rw[aC (show¬decide ((0:Int)≤y.2.2.2.2.1)=true by simpa using h0)];exact⟨_,rfl⟩
theorem compare_ans(a b c:Int):∃r,f218 a b c=some r:=by
 unfold f218
 repeat' (first|exact⟨_,rfl⟩|split)
def FV(s:cz)(PS:Ze)(x:uC)(a:Int):Prop:=x.2.2.2.1.length=(flds s a).length∧∀v∈x.2.2.2.1,v∈PS
structure LI(s:cz)(PS:Ze)(u:dq)(l:ZB):Prop where
 len:l.length≤u.2.2.1.length
 ok:∀x:Int,0≤x→x<(l.length:Int)→FV s PS (nth fL l x) (nth aL u.2.2.1 x).2.2.1
theorem LI.nil(s:cz)(PS:Ze)(u:dq):LI s PS u []:=⟨fg _,fun x h0 h1=>by rw[jK] at h1;omega⟩
theorem LI.push{s:cz}{PS:Ze}{u:dq}{l:ZB}(h:LI s PS u l){x:uC}(hl:l.length<u.2.2.1.length)(hx:FV s PS x (nth aL u.2.2.1 (l.length:Int)).2.2.1):LI s PS u (l++[x]):=by
 refine⟨by rw[dZ,cM];omega,fun j h0 h1=>?_⟩
 rw[dZ,cM] at h1
 have e:j=(j.toNat:Int):=by omega
 by_cases hj:j<(l.length:Int)
 ·have h2:=h.ok j h0 hj
  rw[e,cT (t:=fL) (by rw[dZ];omega),List.getElem_append_left (by omega)]
  rw[e,cT (t:=fL) (by omega)] at h2
  exact h2
 ·have ej:j.toNat=l.length:=by omega
  have ej':j=(l.length:Int):=by omega
  rw[ej',cT (t:=fL) (by rw[dZ,cM];omega),List.getElem_append_right (cL _)]
  simp only[Nat.sub_self,List.getElem_singleton]
  exact hx
abbrev cR(s:cz)(u:dq):fC:=((s,()),(u,()))
theorem values_at{s:cz}{PS:Ze}{u:dq}{l:ZB}(hL:LI s PS u l){t:gO}{n:Int}(hn:n≤(l.length:Int))(h:InT (cR s u) t n):
 0≤t.2.2.1∧t.2.2.1<(l.length:Int)∧0≤t.2.2.2.1∧t.2.2.2.1<((nth fL l t.2.2.1).2.2.2.1.length:Int)∧nth (.int .i64) (nth fL l t.2.2.1).2.2.2.1 t.2.2.2.1∈PS:=by
 have hv:t.2.2.1<(l.length:Int):=Int.lt_of_lt_of_le h.v1 hn
 obtain⟨h1,h2⟩:=hL.ok _ h.v0 hv
 have hb:=h.f.b1
 have hb:t.2.2.2.1<((nth fL l t.2.2.1).2.2.2.1.length:Int):=by rw[h1];exact hb
 exact⟨h.v0,hv,h.f.b0,hb,h2 _ (dv (t:=.int .i64) h.f.b0 hb)⟩
theorem dval{s:cz}{PS:Ze}{u:dq}{l:ZB}(hL:LI s PS u l)(hl:l.length=u.2.2.1.length){t:gO}(ht:TOK (cR s u) t):
 ∃v,f175 t l=some v∧(v∈PS∨t.2.2.1= -1∧v=t.2.2.2.2.1):=by
 unfold f175
 by_cases h:t.2.2.1= -1
 ·rw[cH h];exact⟨_,rfl,Or.inr ⟨h,rfl⟩⟩
 ·rcases ht with hi|hi
  ·obtain⟨a1,a2,a3,a4,a5⟩:=values_at hL (by rw[hl];exact kg _) hi
   rw[aC (show¬decide (t.2.2.1=(-1:Int))=true by simpa using h),aA a1,aA a2,aA a3,aA a4]
   exact⟨_,rfl,Or.inl a5⟩
  ·exact absurd hi h
theorem fold_mem(day:Int){L:Zk}:∀(l:Zk)(s:eQ×Bool),(∀f∈l,f∈L)→(s.2=true→s.1∈L)→((l.foldl (eI day) s).2=true→(l.foldl (eI day) s).1∈L)
 |[],s,_,hs=>hs
 |
  f::l,s,hl,hs=>by
  rw[List.foldl_cons]
  refine fold_mem day l _ (fun x hx=>hl x (dT _ hx)) ?_
  unfold eI
  split
  ·exact fun _=>hl f (du ..)
  ·exact hs
theorem atF_mem{l:Zk}{k:gX}{day known:Int}(h:(iU l k day known).2=true):∃f∈l,f.2.1=(iU l k day known).1:=by
 have hm:=fold_mem day (L:=l) (l.filter (dg k known)) (zF,false) (fun x hx=>(List.mem_filter.1 hx).1) (fun h=>by cases h)
 have e:(l.filter (dg k known)).foldl (eI day) (zF,false)=gR k day known l (zF,false):=rfl
 rw[e] at hm
 unfold iU at h ⊢
 dsimp only at h ⊢
 split at h
 ·rename_i hc
  rw[aA hc]
  exact⟨_,hm hc.1,rfl⟩
 ·cases h
theorem factsAt_eq(l:Zk)(k:gX)(day known:Int)(hl:l.length≤aE):∃v b,Ab l k day known=some (v,b)∧(b=true→∃f∈l,f.2.1=v):=by
 unfold Ab
 rw[aA hl]
 exact⟨_,_,rfl,atF_mem⟩
theorem recorded_eq(s:cz)(hr:s.2.2.2.1.length≤aE)(a:Int):∃b,f49 s a=some b∧(b=true→0≤a∧a<(s.2.2.1.length:Int)∧2≤(flds s a).length):=by
 have hB:=hB
 have no:∀y:Zl,y=some false→∃r,y=some r∧(r=true→0≤a∧a<(s.2.2.1.length:Int)∧2≤(flds s a).length):=fun y hy=>⟨false,hy,fun h=>(by cases h)⟩
 unfold f49
 by_cases h0:a<0
 ·rw[cH h0];exact no _ rfl
 ·rw[aC (show¬decide (a<(0:Int))=true by simpa using h0)]
  by_cases h1:(s.2.2.1.length:Int)≤a
  ·rw[cH h1];exact no _ rfl
  ·rw[aC (show¬decide ((s.2.2.1.length:Int)≤a)=true by simpa using h1),aA (Int.not_lt.1 h0),aA (Int.not_le.1 h1)]
   have e:(nth bG s.2.2.1 a).2.2.2.2.1=flds s a:=rfl
   rw[e]
   by_cases h2:((flds s a).length:Int)<2
   ·rw[cu h2];exact no _ rfl
   ·rw[dz h2,aJ,aC (by decide),aH]
    dsimp only
    have yes:∀y:Zl,(∃z,y=some z)→∃z,y=some z∧(z=true→0≤a∧a<(s.2.2.1.length:Int)∧2≤(flds s a).length):=fun y ⟨z,hz⟩=>⟨z,hz,fun _=>⟨Int.not_lt.1 h0,Int.not_le.1 h1,by omega⟩⟩
    apply yes
    suffices hW:W (aG (U:=Int×Zm) (AO (Int.toNat (List.length s.2.2.2.1:Int)+1) (a,s.2.2.2.1,(List.length s.2.2.2.1:Int),0,([]:Zm))) (fun x=>some (!(bw (.int .i64) .bool x.1 x.2)))) (fun _=>True) by
     obtain⟨r,hr,_⟩:=hW
     exact⟨r,hr⟩
    refine bN.2 (W.ct (cD (L:=AO) rfl (CT (fun _=>True) fun _=>True) s.2.2.2.1.length (fun c(d:Zm)=>(a,s.2.2.2.1,(s.2.2.2.1.length:Int),(c:Int),d)) (fun c d=>d.length≤c) ?step ?stop _ 0 [] (by omega) (by omega) (cL _)) (fun d h=>⟨_,rfl,trivial⟩) fun r h=>trivial)
    case step=>
     intro rec c d hc hd kk
     dsimp only
     have hw2:=ka c (by omega)
     rw[cH (by omega),ei c,aA (show(c:Int)<(s.2.2.2.1.length:Int) by omega),aA (show d.length+1≤aE by omega),hw2]
     exact kk _ (cG (dr (kt:=.int .i64)) (by omega))
    case stop=>
     intro rec d hd
     dsimp only
     rw[gu (by omega)]
     exact⟨_,rfl,trivial⟩
theorem recLook_eq{PS:Ze}(v:bT)(s:cz)(hN:NB s)(hl:v.2.1.length≤aE)(hPS:∀f∈v.2.1,f.2.1∈PS)(m a p i d k:Int)(rs:Zi)(hr:(rs.length+1)*40≤aE):
 ∃c b rs',qf m a p i d v k s rs=some (c,b,a,p,i,d,v,k,s,rs')∧rs'.length=rs.length+1∧(b=true→c∈PS):=by
 unfold qf f52
 rw[aJ,aA (by rw[cM];exact hr)]
 obtain⟨x,b,e,hb⟩:=factsAt_eq v.2.1 (a,(p,(aZ ((aZ ((16:Int)*i))+m),()))) d k hl
 rw[e,aJ]
 dsimp only
 cases b with
 |false=>exact⟨_,false,_,rfl,by rw[dZ,cM],fun h=>(by cases h)⟩
 |
  true=>
  obtain⟨f,hf,rfl⟩:=hb rfl
  obtain⟨q,hq⟩:=value_ans s hN a m f.2.1
  rw[aA rfl,hq]
  exact⟨_,q,_,rfl,by rw[dZ,cM],fun _=>hPS f hf⟩
theorem recAt_eq{PS:Ze}(v:bT)(hN:NB v.1.1)(hR:v.1.1.2.2.2.1.length≤aE)(hF:∀a,0≤a→a<(v.1.1.2.2.1.length:Int)→(flds v.1.1 a).length≤1000)(hl:v.2.1.length≤aE)(hPS:∀f∈v.2.1,f.2.1∈PS)(a p i d k:Int)(hp:p∈PS):
 W (f33 v a p i d k) fun r=>r.2.2.length≤1000∧(r.1=true→FV v.1.1 PS r.2.1 a):=by
 have hB:=hB
 unfold f33
 obtain⟨b,e,hb⟩:=recorded_eq v.1.1 hR a
 rw[e,aJ]
 have no:∀(z:uC),(([]:Zi).length≤1000∧((false:Bool)=true→FV v.1.1 PS z a)):=fun z=>⟨fg _,fun h=>(by cases h)⟩
 cases b with
 |false=>exact⟨_,rfl,no _⟩
 |
  true=>
  obtain⟨a0,a1,a2⟩:=hb rfl
  rw[aC (by decide)]
  have hs:∃z,f50 p i=some z:=by
   unfold f50
   refine bindT ?_ fun v=>⟨v,rfl⟩
   repeat' (first|exact⟨_,rfl⟩|split)
  obtain⟨z,hz⟩:=hs
  rw[hz,aJ]
  cases z with
  |false=>exact⟨_,rfl,no _⟩
  |
   true=>
   rw[aC (by decide)]
   by_cases d0:d<0
   ·rw[cH d0];exact⟨_,rfl,no _⟩
   ·rw[aC (show¬decide (d<(0:Int))=true by simpa using d0)]
    by_cases d1:(1024:Int)≤d
    ·rw[cu d1];exact⟨_,rfl,no _⟩
    ·rw[dz d1,aJ,aC (by decide),aH]
     dsimp only
     have hFa:=hF a a0 a1
     have e:(nth bG v.1.1.2.2.1 a).2.2.2.2.1=flds v.1.1 a:=rfl
     refine bN.2 (W.ct (cD (L:=BC) rfl (CT (fun r=>∃t s,r=(a,p,i,0,0,0,t,s)∧s.length≤1000∧t.length=(flds v.1.1 a).length∧∀x∈t,x∈PS) fun r=>r.1=false∧r.2.2.length≤1000) (flds v.1.1 a).length (fun c(u:Ze×Zi)=>((c:Int),v,a,p,i,d,k,0,0,0,v.1.1,u.1,u.2)) (fun c u=>u.1.length=c∧u.2.length≤c∧∀x∈u.1,x∈PS) ?step ?stop gD 1 ([p],[]) (by show _<18446744073709551616;omega) (by omega) ⟨rfl,fg _,fun x hx=>(by rw[List.mem_singleton.1 hx];exact hp)⟩) (fun r h=>?_) fun r h=>?_)
     case step=>
      rintro rec c ⟨t,s⟩ hc ⟨ht,hs,hP⟩ kk
      dsimp only at ht hs hP ⊢
      have hw2:=ka c (by omega)
      rw[e,aA a0,aA a1,cH (by omega)]
      obtain⟨x,b,s',e2,hs',hx⟩:=recLook_eq v v.1.1 hN hl hPS (c:Int) a p i d k s (by omega)
      rw[e2,aJ]
      dsimp only
      cases b with
      |false=>exact⟨_,rfl,rfl,by show s'.length≤1000;omega⟩
      |
       true=>
       rw[aC (by decide),aA (show(t.length+List.length [x])*8≤aE by rw[cM];omega),hw2]
       refine kk (t++[x],s') ⟨by rw[dZ,cM,ht],by show s'.length≤c+1;omega,fun y hy=>?_⟩
       rcases List.mem_append.1 hy with h|h
       ·exact hP y h
       ·rw[List.mem_singleton.1 h];exact hx rfl
     case stop=>
      rintro rec ⟨t,s⟩ ⟨ht,hs,hP⟩
      dsimp only at ht hs hP ⊢
      rw[e,aA a0,aA a1,gu (by omega)]
      exact⟨_,rfl,t,s,rfl,by omega,ht,hP⟩
     ·obtain⟨t,s,rfl,h1,h2,h3⟩:=h
      exact⟨_,rfl,h1,fun _=>⟨h2,h3⟩⟩
     ·exact⟨h.2,fun h'=>by rw[h.1] at h';cases h'⟩
theorem freshL_eq:∀(rs:Zi)(se:Zh)(acc:Zi),se.length+rs.length≤aE→(acc.length+rs.length)*40≤aE→∃s' a',iK rs se acc=some (s',a')∧s'.length≤se.length+rs.length∧a'.length≤acc.length+rs.length
 |[],se,acc,_,_=>⟨se,acc,rfl,cL _,cL _⟩
 |
  r::rs,se,acc,h1,h2=>by
  rw[dH] at h1 h2 ⊢
  unfold iK
  split
  ·obtain⟨s',a',e,q1,q2⟩:=freshL_eq rs se acc (by omega) (by omega)
   exact⟨s',a',e,by omega,by omega⟩
  ·have hm:(bB bC r true se).length≤se.length+1:=dr
   rw[aA (by omega),aA (by omega)]
   obtain⟨s',a',e,q1,q2⟩:=freshL_eq rs (bB bC r true se) (acc++[r]) (by omega) (by rw[dZ,cM];omega)
   rw[dZ,cM] at q2
   exact⟨s',a',e,by omega,by omega⟩
abbrev Pl:=gX
abbrev FM:=Zj
abbrev SM:=Zh
abbrev DM:=Zf
def IX(PS:Ze)(ix:Ix):Prop:=∀key,(bw bx (.slice 64 aO) key (bM ix)).length≤1000000∧∀f∈bw bx (.slice 64 aO) key (bM ix),f.2.1∈PS
structure WX(w:bT)(lo:Ze)(PS:Ze)(U:List Pl)(ix:Ix):Prop where
 cg:CG w.1.1 lo
 zero:(0:Int)∈PS
 consts:∀u∈w.1.1.2.2.2.1,∀t∈u.2.2.2.2.1,t.2.2.1.2.2.2.2.1∈PS
 pl:∀a p i:Int,0≤a→a<(w.1.1.2.2.1.length:Int)→p∈PS→0≤i→i<4→(a,(p,(i,())))∈U
 len:U.length≤1000000
 fl:∀a,0≤a→a<(w.1.1.2.2.1.length:Int)→(flds w.1.1 a).length≤1000
 ix:IX PS ix
structure WY(w:bT)(PS:Ze)(U:List Pl)(ix:Ix):Prop where
 sw:SW w.1.1
 len:U.length≤1000000
 fl:∀a,0≤a→a<(w.1.1.2.2.1.length:Int)→(flds w.1.1 a).length≤1000
 ix:IX PS ix
theorem WX.y{w:bT}{lo PS:Ze}{U:List Pl}{ix:Ix}(h:WX w lo PS U ix):WY w PS U ix:=⟨h.cg.sw,h.len,h.fl,h.ix⟩
structure FI(s:cz)(PS:Ze)(U:List Pl)(fo:FM)(se:SM)(rs:Zi):Prop where
 nod:(fo.map (·.1)).Nodup
 sub:∀e∈fo,e.1∈U
 ok:∀e∈fo,e.2.2.2.2.1=true→FV s PS e.2.1 e.1.1
 se:se.length≤1000*fo.length
 rs:rs.length≤1000*fo.length
theorem nodup_sub{α:Type}:∀(l L:List α),l.Nodup→(∀x∈l,x∈L)→l.length≤L.length:=by
 classical
 intro l
 induction l with
 |nil=>intro L _ _;exact fg _
 |
  cons a l ih=>
  intro L hn hs
  have ha:=hs a (du ..)
  have h:=ih (L.erase a) (List.nodup_cons.1 hn).2 fun x hx=>(List.mem_erase_of_ne (fun e:x=a=>(List.nodup_cons.1 hn).1 (e▸hx))).2 (hs x (dT _ hx))
  rw[List.length_erase_of_mem ha] at h
  have hp:=List.length_pos_of_mem ha
  rw[dH]
  omega
theorem FI.len{s:cz}{PS:Ze}{U:List Pl}{fo:FM}{se:SM}{rs:Zi}(h:FI s PS U fo se rs):fo.length≤U.length:=by
 have:=nodup_sub _ U h.nod fun x hx=>by
  obtain⟨e,he,rfl⟩:=List.mem_map.1 hx
  exact h.sub e he
 rwa [iO] at this
theorem mset_ge{α:Type}{kt:Ty}{k:kt.den}{y:α}:∀{es:List (kt.den×α)},es.length≤(bB kt k y es).length
 |[]=>fg _
 |
  e::es=>by
  unfold bB
  split
  ·exact cL _
  ·rw[dH,dH];exact Nat.succ_le_succ mset_ge
theorem FI.put{s:cz}{PS:Ze}{U:List Pl}{fo:FM}{se:SM}{rs:Zi}(h:FI s PS U fo se rs){p:Pl}(hp:p∈U){x:uN}(hx:x.2.2.2.1=true→FV s PS x.1 p.1){se':SM}{rs':Zi}
 (h1:se'.length≤1000*(bB bx p x fo).length) (h2:rs'.length≤1000*(bB bx p x fo).length):FI s PS U (bB bx p x fo) se' rs' where
 nod:=dX (kt:=bx) rfl h.nod
 sub e he:=by
  rcases eR (kt:=bx) he with rfl|he
  ·exact hp
  ·exact h.sub e he
 ok e he:=by
  rcases eR (kt:=bx) he with rfl|he
  ·exact hx
  ·exact h.ok e he
 se:=h1
 rs:=h2
theorem FI.nil(s:cz)(PS:Ze)(U:List Pl):FI s PS U [] [] []:=
 ⟨List.nodup_nil,fun e he=>(by cases he),fun e he=>(by cases he),cL _,cL _⟩
theorem about_eq{w:bT}{PS:Ze}{U:List Pl}{ix:Ix}(hw:WY w PS U ix)(p:Pl)(d k:Int)(b:Bool)(m:DM)(z:Unit)(fo:FM)(se:SM)(rs:Zi):
 ∃L:Zk,iu p w ix d k b m z fo se rs=some (w,ix,d,k,b,m,z,fo,se,rs,(w.1,(L,())))∧L.length≤1000*1000000∧∀f∈L,f.2.1∈PS:=by
 have hB:=hB
 suffices hW:W (iu p w ix d k b m z fo se rs) fun r=>∃L:Zk,r=(w,ix,d,k,b,m,z,fo,se,rs,(w.1,(L,())))∧L.length≤1000*1000000∧∀f∈L,f.2.1∈PS by
  obtain⟨r,e,L,rfl,h⟩:=hW
  exact⟨L,e,h⟩
 have nil:∀f∈([]:Zk),f.2.1∈PS:=fun f hf=>(by cases hf)
 unfold iu
 by_cases h0:0≤p.1
 ·rw[cH h0]
  by_cases h1:p.1<(w.1.1.2.2.1.length:Int)
  ·rw[cu h1,aJ,aA rfl,aA h0,aA h1]
   have e:(nth bG w.1.1.2.2.1 p.1).2.2.2.2.1=flds w.1.1 p.1:=rfl
   have hF:=hw.fl _ h0 h1
   rw[e]
   refine bN.2 (W.ct (cD (L:=kC) rfl (CT (fun r=>∃L:Zk,r=(w,ix,d,k,b,m,z,fo,se,rs,w.1,L)∧L.length≤1000*1000000∧∀f∈L,f.2.1∈PS) fun _=>False) (flds w.1.1 p.1).length (fun c(L:Zk)=>(((flds w.1.1 p.1).length:Int),(c:Int),w,ix,d,k,b,m,z,fo,se,rs,p,w.1,L)) (fun c L=>L.length≤c*1000000∧∀f∈L,f.2.1∈PS) ?step ?stop _ 0 [] (by omega) (by omega) ⟨fg _,nil⟩) (fun r h=>?_) fun r h=>?_)
   case step=>
    rintro rec c L hc ⟨hL,hP⟩ kk
    dsimp only
    have hw2:=ka c (by omega)
    obtain⟨q1,q2⟩:=hw.ix (p.1,(p.2.1,(aZ ((aZ ((16:Int)*p.2.2.1))+(c:Int)),())))
    rw[cH (by omega),aA (by omega),hw2]
    refine kk _ ⟨by rw[dZ];omega,fun f hf=>?_⟩
    rcases List.mem_append.1 hf with h|h
    ·exact hP f h
    ·exact q2 f h
   case stop=>
    rintro rec L ⟨hL,hP⟩
    dsimp only
    rw[gu (by omega)]
    exact⟨_,rfl,L,rfl,cG hL (fM _ hF),hP⟩
   ·obtain⟨L,rfl,h⟩:=h
    exact⟨_,rfl,L,rfl,h⟩
   ·exact h.elim
  ·rw[dz h1];exact⟨_,rfl,[],rfl,fg _,nil⟩
 ·rw[aC (show¬decide ((0:Int)≤p.1)=true by simpa using h0)];exact⟨_,rfl,[],rfl,fg _,nil⟩
def PL(w:bT)(PS:Ze)(U:List Pl)(ix:Ix)(d k:Int)(b:Bool)(m:DM)(z:Unit)(p:Pl)(r:bT×Ix×Int×Int×Bool×DM×Unit×FM×SM×uN×List vP):Prop:=
 ∃fo se x rs,r=(w,ix,d,k,b,m,z,fo,se,x,rs)∧FI w.1.1 PS U fo se rs∧(x.2.2.2.1=true→FV w.1.1 PS x.1 p.1)
theorem lookR{w:bT}{PS:Ze}{U:List Pl}{ix:Ix}(hw:WY w PS U ix)(p:Pl)(d k:Int)(b:Bool)(m:DM)(z:Unit){fo:FM}{se:SM}{rs:Zi}(h:FI w.1.1 PS U fo se rs)(hp:ck bx p fo=false)(hU:p∈U)(hP:p.2.1∈PS):
 ∃(L:Zk)(y:Bool)(x:uC)(n:Zi)(se':SM)(rs':Zi),iu p w ix d k b m z fo se rs=some (w,ix,d,k,b,m,z,fo,se,rs,(w.1,(L,())))∧f33 (w.1,(L,())) p.1 p.2.1 p.2.2.1 d k=some (y,x,n)∧
  jb rs n w ix d k b m z fo se=some (n,w,ix,d,k,b,m,z,fo,se',rs')∧fo.length+1≤aE∧
  PL w PS U ix d k b m z p (w,ix,d,k,b,m,z,bB bx p (x,((0:Int),(([]:ZB),(y,())))) fo,se',(x,((0:Int),(([]:ZB),(y,())))),rs'):=by
 have hB:=hB
 obtain⟨L,e1,hL,hPS⟩:=about_eq hw p d k b m z fo se rs
 obtain⟨⟨y,x,n⟩,e2,hn,hx⟩:=recAt_eq (PS:=PS) (w.1,(L,())) hw.sw.nb hw.sw.rules hw.fl (by show L.length≤aE;omega) hPS p.1 p.2.1 p.2.2.1 d k hP
 dsimp only at hn hx
 have hlen:=h.len
 have h1:=hw.len
 have h2:=h.se
 have h3:=h.rs
 obtain⟨se',rs',e3,q1,q2⟩:=freshL_eq n se rs (by omega) (by omega)
 refine⟨L,y,x,n,se',rs',e1,e2,?_,by omega,?_⟩
 ·unfold jb
  rw[aA (by omega),e3]
  rfl
 ·have hnew:(bB bx p (x,((0:Int),(([]:ZB),(y,())))) fo).length=fo.length+1:=by
   rw[lY (kt:=bx) rfl (fun hm=>by rw[(eo (kt:=bx) rfl).2 hm] at hp;cases hp),dZ,cM]
  exact⟨_,_,_,_,rfl,h.put hU hx (by omega) (by omega),hx⟩
abbrev Q0:=Pl×bT×Ix×Int×Int×Bool×DM×Unit×FM×SM×List vP×Unit→Option (bT×Ix×Int×Int×Bool×DM×Unit×FM×SM×uN×List vP)
abbrev Q1:=dq×Int×List uC×bT×Ix×Int×Int×Bool×DM×Unit×FM×SM×List vP×Unit→Option (Bool×dq×Int×bT×Ix×Int×Int×Bool×DM×Unit×FM×SM×List uC×List vP)
theorem holdT_u{s:cz}{PS:Ze}{u:dq}{l:ZB}(hN:NB s)(hL:LI s PS u l)(hl:l.length=u.2.2.1.length){t:gO}(ht:TOK (cR s u) t)(h1:t.2.2.1≠-1):
 ∃n,∀(w:bT),w.1.1=s→∀ix d k b m z fo se rs,pk t u w ix d k b m z l fo se rs=some (n,u,w,ix,d,k,b,m,z,l,fo,se,rs):=by
 rcases ht with hi|hi
 ·obtain⟨v,hv,_⟩:=dval hL hl (Or.inl hi)
  obtain⟨p,hp⟩:=base_ans s hN ([],([],((nth aL u.2.2.1 t.2.2.1).2.2.1,(t.2.2.2.1,())))) v
  refine⟨p.1,fun w hw ix d k b m z fo se rs=>?_⟩
  have hp':f217 w.1.1 ([],([],((nth aL u.2.2.1 t.2.2.1).2.2.1,(t.2.2.2.1,())))) v=some p:=by rw[hw];exact hp
  unfold pk
  rw[aA hi.v0,aA (show t.2.2.1<(u.2.2.1.length:Int) from hi.v1),hv,aJ,hp']
  rfl
 ·exact absurd hi h1
theorem hold_u{s:cz}{PS:Ze}{u:dq}{l:ZB}(hN:NB s)(hw:u.2.2.2.1.length≤aE)(hR:RK (cR s u))(hL:LI s PS u l)(hl:l.length=u.2.2.1.length):
 ∃y,∀(w:bT),w.1.1=s→∀ix d k b m z fo se rs,mL u w ix d k b m z l fo se rs=some (y,w,ix,d,k,b,m,z,l,fo,se,rs):=by
 have hB:=hB
 have key:∀n i:Nat,u.2.2.2.1.length -i<n→i≤u.2.2.2.1.length→∃y:Bool,∀(w:bT),w.1.1=s→∀ix d k b m z fo se rs,
  gr n (u.2.2.2.1,(u.2.2.2.1.length:Int),(i:Int),w,ix,d,k,b,m,z,l,fo,se,rs,u)=some (if y=true then .brk (w,ix,d,k,b,m,z,l,fo,se,rs) else .ret (false,w,ix,d,k,b,m,z,l,fo,se,rs)):=by
  intro n
  induction n with
  |zero=>intro i h;omega
  |
   succ n ih=>
   intro i hn hi
   by_cases h:i<u.2.2.2.1.length
   ·have hm:TOK (cR s u) (nth aP u.2.2.2.1 (i:Int)).2.1∧TOK (cR s u) (nth aP u.2.2.2.1 (i:Int)).2.2.1:=hR.wh _ (dv (t:=aP) (l:=u.2.2.2.1) (dD i) (show(i:Int)<(u.2.2.2.1.length:Int) by omega))
    obtain⟨y,hy⟩:=ih (i+1) (by omega) (by omega)
    have hw2:=ka i (by omega)
    have hi1:(i:Int)<(u.2.2.2.1.length:Int):=by omega
    generalize ha:nth aP u.2.2.2.1 (i:Int)=a at hm
    obtain⟨v1,e1,_⟩:=dval hL hl hm.1
    obtain⟨v2,e2,_⟩:=dval hL hl hm.2
    have fin:∀(p q:Int)(c:Bool),f218 a.1 p q=some c→∀(w:bT) ix d k b m z fo se rs(rec:(Zx)×Int×Int×bT×Ix×Int×Int×Bool×DM×Unit×(ZB)×FM×SM×(Zi)×dq→Option (cQ (bT×Ix×Int×Int×Bool×DM×Unit×(ZB)×FM×SM×(Zi)) (Bool×bT×Ix×Int×Int×Bool×DM×Unit×(ZB)×FM×SM×(Zi)))),
     rec (u.2.2.2.1,(u.2.2.2.1.length:Int),((i+1:Nat):Int),w,ix,d,k,b,m,z,l,fo,se,rs,u)=some (if y=true then .brk (w,ix,d,k,b,m,z,l,fo,se,rs) else .ret (false,w,ix,d,k,b,m,z,l,fo,se,rs))→
     (Option.bind (f218 a.1 p q) fun y10=>if(!y10)=true then(bZ (some (false,w,ix,d,k,b,m,z,l,fo,se,rs))) else(rec (u.2.2.2.1,(u.2.2.2.1.length:Int),aZ ((i:Int)+(1:Int)),w,ix,d,k,b,m,z,l,fo,se,rs,u)))=some (if(c&&y)=true then .brk (w,ix,d,k,b,m,z,l,fo,se,rs) else .ret (false,w,ix,d,k,b,m,z,l,fo,se,rs)):=by
     intro p q c hc w ix d k b m z fo se rs rec hr
     rw[hc,aJ]
     cases c with
     |false=>rfl
     |true=>rw[aC (by decide),hw2,hr];rfl
    have hi0:=dD i
    by_cases n1:a.2.1.2.2.1= -1
    ·obtain⟨c,hc⟩:=compare_ans a.1 v1 v2
     refine⟨c&&y,fun w hws ix d k b m z fo se rs=>?_⟩
     have hyw:=hy w hws ix d k b m z fo se rs
     unfold gr at hyw ⊢
     rw[aM]
     generalize aK _ n=rec at hyw ⊢
     dsimp only
     rw[cH hi1,aA hi0,aA hi1,ha,e1,aJ,e2,aJ,aC (show¬(!decide (a.2.1.2.2.1=(-1:Int)))=true by simpa using n1)]
     exact fin v1 v2 c hc w ix d k b m z fo se rs rec hyw
    ·by_cases n2:a.2.2.1.2.2.1= -1
     ·obtain⟨c,hc⟩:=compare_ans a.1 v1 v2
      refine⟨c&&y,fun w hws ix d k b m z fo se rs=>?_⟩
      have hyw:=hy w hws ix d k b m z fo se rs
      unfold gr at hyw ⊢
      rw[aM]
      generalize aK _ n=rec at hyw ⊢
      dsimp only
      rw[cH hi1,aA hi0,aA hi1,ha,e1,aJ,e2,aJ,aA (show(!decide (a.2.1.2.2.1=(-1:Int)))=true by simpa using n1),aJ,aC (show¬(!decide (a.2.2.1.2.2.1=(-1:Int)))=true by simpa using n2)]
      exact fin v1 v2 c hc w ix d k b m z fo se rs rec hyw
     ·obtain⟨p,hp⟩:=holdT_u hN hL hl hm.1 n1
      obtain⟨q,hq⟩:=holdT_u hN hL hl hm.2 n2
      obtain⟨c,hc⟩:=compare_ans a.1 p q
      refine⟨c&&y,fun w hws ix d k b m z fo se rs=>?_⟩
      have hyw:=hy w hws ix d k b m z fo se rs
      unfold gr at hyw ⊢
      rw[aM]
      generalize aK _ n=rec at hyw ⊢
      dsimp only
      rw[cH hi1,aA hi0,aA hi1,ha,e1,aJ,e2,aJ,aA (show(!decide (a.2.1.2.2.1=(-1:Int)))=true by simpa using n1),aJ,aA (show(!decide (a.2.2.1.2.2.1=(-1:Int)))=true by simpa using n2),hp w hws ix d k b m z fo se rs,aJ]
      dsimp only
      rw[hq w hws ix d k b m z fo se rs,aJ]
      exact fin p q c hc w ix d k b m z fo se rs rec hyw
   ·refine⟨true,fun w hws ix d k b m z fo se rs=>?_⟩
    unfold gr
    rw[aM]
    dsimp only
    rw[gu (by omega)]
    rfl
 obtain⟨y,hy⟩:=key (Int.toNat (List.length u.2.2.2.1:Int)+1) 0 (by omega) (by omega)
 refine⟨y,fun w hws ix d k b m z fo se rs=>?_⟩
 have hyw:gr (Int.toNat (List.length u.2.2.2.1:Int)+1) (u.2.2.2.1,(List.length u.2.2.2.1:Int),0,w,ix,d,k,b,m,z,l,fo,se,rs,u)=_:=hy w hws ix d k b m z fo se rs
 unfold mL
 rw[hyw]
 cases y<;>rfl
theorem build_u{s:cz}{PS:Ze}{u:dq}{l:ZB}(hw:u.2.2.2.2.1.length≤aE)(hR:RK (cR s u))(hL:LI s PS u l)(hl:l.length=u.2.2.1.length)(hf:1≤(flds s u.2.1).length)(hf2:(flds s u.2.1).length≤1000)(p:Int)(hp:p∈PS)(h0:(0:Int)∈PS)(hc:∀t∈u.2.2.2.2.1,t.2.2.1.2.2.2.2.1∈PS):
 ∃x,FV s PS x u.2.1∧∀(w:bT),w.1.1=s→∀ix d k b m z fo se rs,mP u p l w ix d k b m z fo se rs=some (w,ix,d,k,b,m,z,fo,se,rs,x):=by
 have hB:=hB
 have key:∀(n i:Nat)(v:Ze),u.2.2.2.2.1.length -i<n→i≤u.2.2.2.2.1.length→v.length=(flds s u.2.1).length→(∀x∈v,x∈PS)→∃v',v'.length=(flds s u.2.1).length∧(∀x∈v',x∈PS)∧∀(w:bT) ix d k b m z fo se rs,
  jC n (p,l,u.2.2.2.2.1,(u.2.2.2.2.1.length:Int),(i:Int),w,ix,d,k,b,m,z,fo,se,rs,u,0,0,0,v)=some (.brk (p,w,ix,d,k,b,m,z,fo,se,rs,u,0,0,0,v')):=by
  intro n
  induction n with
  |zero=>intro i v h;omega
  |
   succ n ih=>
   intro i v hn hi hv hP
   by_cases h:i<u.2.2.2.2.1.length
   ·have hi1:(i:Int)<(u.2.2.2.2.1.length:Int):=by omega
    have hi0:=dD i
    have hm:=dv (t:=aX) (l:=u.2.2.2.2.1) hi0 hi1
    have hw2:=ka i (by omega)
    have hc2:=hc _ hm
    obtain⟨hi,ht⟩:=hR.st _ hm
    obtain⟨y,ey,hy⟩:=dval hL hl ht
    have hb:(nth aX u.2.2.2.2.1 (i:Int)).2.1<(v.length:Int):=by rw[hv];exact hi.b1
    obtain⟨v',q1,q2,q3⟩:=ih (i+1) (List.set v (Int.toNat (nth aX u.2.2.2.2.1 (i:Int)).2.1) y) (by omega) (by omega) (by rw[bQ];exact hv) (fun x hx=>by
     rcases List.mem_or_eq_of_mem_set hx with h|rfl
     ·exact hP _ h
     ·rcases hy with h|⟨_,rfl⟩
      ·exact h
      ·exact hc2)
    refine⟨v',q1,q2,fun w ix d k b m z fo se rs=>?_⟩
    have hyw:=q3 w ix d k b m z fo se rs
    unfold jC at hyw ⊢
    rw[aM]
    generalize aK _ n=rec at hyw ⊢
    dsimp only
    rw[cH hi1,aA hi0,aA hi1,ey,aJ,aA hi.b0,aA hb,hw2]
    exact hyw
   ·refine⟨v,hv,hP,fun w ix d k b m z fo se rs=>?_⟩
    unfold jC
    rw[aM]
    dsimp only
    rw[gu (by omega)]
 obtain⟨v',q1,q2,q3⟩:=key (Int.toNat (List.length u.2.2.2.2.1:Int)+1) 0 (List.set (List.replicate (Int.toNat ((flds s u.2.1).length:Int)) (0:Int)) (Int.toNat (0:Int)) p) (by omega) (by omega) (by rw[bQ,jJ,dO]) (fun x hx=>by
  rcases List.mem_or_eq_of_mem_set hx with h|rfl
  ·rw[List.mem_replicate] at h
   rw[h.2];exact h0
  ·exact hp)
 refine⟨(u.2.1,(p,((0:Int),(v',())))),⟨q1,q2⟩,fun w hws ix d k b m z fo se rs=>?_⟩
 subst hws
 have e:(nth bG w.1.1.2.2.1 u.2.1).2.2.2.2.1=flds w.1.1 u.2.1:=rfl
 have q:=q3 w ix d k b m z fo se rs
 have q':jC (Int.toNat (List.length u.2.2.2.2.1:Int)+1) (p,l,u.2.2.2.2.1,(List.length u.2.2.2.2.1:Int),0,w,ix,d,k,b,m,z,fo,se,rs,u,0,0,0,List.set (List.replicate (Int.toNat ((flds w.1.1 u.2.1).length:Int)) (0:Int)) (Int.toNat (0:Int)) p)=_:=q
 unfold mP
 rw[aA hR.h0,aA hR.h1,e,ei _,aA (kg _),aA (by omega),aA (by rw[jJ,dO];omega),q',aH]
def aboutL(s:cz)(ix:Ix)(p:Pl):Zk:=if 0≤p.1∧p.1<(s.2.2.1.length:Int) then(List.range (flds s p.1).length).flatMap fun(c:Nat)=>bw bx (.slice 64 aO) (p.1,(p.2.1,(aZ ((aZ ((16:Int)*p.2.2.1))+(c:Int)),()))) (bM ix) else[]
theorem about_u{w:bT}{PS:Ze}{U:List Pl}{ix:Ix}(hw:WY w PS U ix)(p:Pl)(d k:Int)(b:Bool)(m:DM)(z:Unit)(fo:FM)(se:SM)(rs:Zi):
 iu p w ix d k b m z fo se rs=some (w,ix,d,k,b,m,z,fo,se,rs,(w.1,(aboutL w.1.1 ix p,()))):=by
 have hB:=hB
 suffices hW:W (iu p w ix d k b m z fo se rs) fun r=>r=(w,ix,d,k,b,m,z,fo,se,rs,(w.1,(aboutL w.1.1 ix p,()))) by
  obtain⟨r,e,rfl⟩:=hW
  exact e
 unfold iu
 by_cases h0:0≤p.1
 ·rw[cH h0]
  by_cases h1:p.1<(w.1.1.2.2.1.length:Int)
  ·rw[cu h1,aJ,aA rfl,aA h0,aA h1]
   have e:(nth bG w.1.1.2.2.1 p.1).2.2.2.2.1=flds w.1.1 p.1:=rfl
   have hF:=hw.fl _ h0 h1
   rw[e]
   have ea:aboutL w.1.1 ix p=(List.range (flds w.1.1 p.1).length).flatMap fun(c:Nat)=>bw bx (.slice 64 aO) (p.1,(p.2.1,(aZ ((aZ ((16:Int)*p.2.2.1))+(c:Int)),()))) (bM ix):=aA ⟨h0,h1⟩
   rw[ea]
   refine bN.2 (W.ct (cD (L:=kC) rfl (CT (fun r=>r=(w,ix,d,k,b,m,z,fo,se,rs,w.1,(List.range (flds w.1.1 p.1).length).flatMap fun(c:Nat)=>bw bx (.slice 64 aO) (p.1,(p.2.1,(aZ ((aZ ((16:Int)*p.2.2.1))+(c:Int)),()))) (bM ix))) fun _=>False) (flds w.1.1 p.1).length (fun c(L:Zk)=>(((flds w.1.1 p.1).length:Int),(c:Int),w,ix,d,k,b,m,z,fo,se,rs,p,w.1,L)) (fun c L=>L.length≤c*1000000∧L=(List.range c).flatMap fun(c:Nat)=>bw bx (.slice 64 aO) (p.1,(p.2.1,(aZ ((aZ ((16:Int)*p.2.2.1))+(c:Int)),()))) (bM ix)) ?step ?stop _ 0 [] (by omega) (by omega) ⟨fg _,rfl⟩) (fun r h=>?_) fun r h=>h.elim)
   case step=>
    rintro rec c L hc ⟨hL,hP⟩ kk
    dsimp only
    have hw2:=ka c (by omega)
    obtain⟨q1,q2⟩:=hw.ix (p.1,(p.2.1,(aZ ((aZ ((16:Int)*p.2.2.1))+(c:Int)),())))
    rw[cH (by omega),aA (by omega),hw2]
    refine kk _ ⟨by rw[dZ];omega,?_⟩
    rw[List.range_succ,List.flatMap_append,←hP,List.flatMap_cons,List.flatMap_nil,gI]
   case stop=>
    rintro rec L ⟨hL,hP⟩
    dsimp only
    rw[gu (by omega),hP]
    exact⟨_,rfl,rfl⟩
   ·subst h
    exact⟨_,rfl,rfl⟩
  ·have ea:aboutL w.1.1 ix p= []:=aC fun h=>h1 h.2
   rw[dz h1,ea];exact⟨_,rfl,rfl⟩
 ·have ea:aboutL w.1.1 ix p= []:=aC fun h=>h0 h.1
  rw[aC (show¬decide ((0:Int)≤p.1)=true by simpa using h0),ea];exact⟨_,rfl,rfl⟩
structure T2(w1:bT)(ix1:Ix)(k1:Int)(w2:bT)(ix2:Ix)(k2:Int)(lo PS:Ze)(U:List Pl)(d:Int)(Gd:vP→Prop):Prop where
 h1:WX w1 lo PS U ix1
 h2:WX w2 lo PS U ix2
 tb:w2.1=w1.1
 rd:∀(p:Pl) r,f33 (w1.1,(aboutL w1.1.1 ix1 p,())) p.1 p.2.1 p.2.2.1 d k1=some r→(∀q∈r.2.2,Gd q)→f33 (w2.1,(aboutL w2.1.1 ix2 p,())) p.1 p.2.1 p.2.2.1 d k2=some r
structure FT(b:cz):Prop where
 schemas:b.2.2.1.length≤6
 rules:b.2.2.2.1.length≤4
 fields:∀x∈b.2.2.1,x.2.2.2.2.1.length≤6
 TC:∀x∈b.2.2.2.1,x.2.2.2.2.1.length≤6
theorem I0(b:cz)(h:SS b):∃r,f107 b=some r∧(r=true→FT b):=by
 have hB:=hB
 have h3:=h.schemas
 have h4:=h.rules
 have h5:=h.converts
 have h6:=h.purposes
 suffices hW:W (f107 b) fun r=>r=true→FT b by
  obtain⟨r,e,h⟩:=hW
  exact⟨r,e,h⟩
 have nb:∀n:Nat,n≤aE→n -0<gD:=fun n hn=>by show _<18446744073709551616;omega
 have no:(false:Bool)=true→FT b:=fun h=>(by cases h)
 unfold f107
 refine bN.2 (W.ct (cD (L:=Ci) rfl (CT (fun d=>d=b∧∀j(hj:j<b.2.2.1.length),b.2.2.1[j].2.2.2.2.1.length≤6) fun r=>r=false) b.2.2.1.length (fun c(_:Unit)=>((c:Int),b)) (fun c _=>∀j(hj:j<b.2.2.1.length),j<c→b.2.2.1[j].2.2.2.2.1.length≤6) ?step ?stop gD 0 () (nb _ h3) (by omega) (fun j _ h=>absurd h (Nat.not_lt_zero _))) (fun d hd=>?_) fun r hr=>by subst hr;exact no)
 case step=>
  intro rec c _ hc hI kk
  dsimp only
  have hw2:=ka c (by omega)
  have hcc:(c:Int)<(b.2.2.1.length:Int):=by omega
  rw[cH hcc,ei c,aA hcc,cT (t:=bG) hc]
  by_cases a1:(6:Int)<(b.2.2.1[c].2.2.2.2.1.length:Int)
  ·rw[cH a1];exact⟨_,rfl,rfl⟩
  ·rw[aC (show¬decide ((6:Int)<(b.2.2.1[c].2.2.2.2.1.length:Int))=true by simpa using a1),ei c,aA hcc,aJ]
   split
   ·exact⟨_,rfl,rfl⟩
   ·rw[hw2]
    refine kk () fun j hj hjc=>?_
    by_cases e:j=c
    ·subst e;omega
    ·exact hI j hj (by omega)
 case stop=>
  intro rec _ hI
  dsimp only
  rw[gu (by omega)]
  exact⟨_,rfl,rfl,fun j hj=>hI j hj hj⟩
 obtain⟨rfl,hf⟩:=hd
 refine bN.2 (W.ct (cD (L:=Cj) rfl (CT (fun d'=>d'=d∧∀j(hj:j<d.2.2.2.1.length),d.2.2.2.1[j].2.2.2.2.1.length≤6) fun r=>r=false) d.2.2.2.1.length (fun c(_:Unit)=>((c:Int),d)) (fun c _=>∀j(hj:j<d.2.2.2.1.length),j<c→d.2.2.2.1[j].2.2.2.2.1.length≤6) ?step ?stop gD 0 () (nb _ h4) (by omega) (fun j _ h=>absurd h (Nat.not_lt_zero _))) (fun d' hd=>?_) fun r hr=>by subst hr;exact no)
 case step=>
  intro rec c _ hc hI kk
  dsimp only
  have hw2:=ka c (by omega)
  have hcc:(c:Int)<(d.2.2.2.1.length:Int):=by omega
  rw[cH hcc,ei c,aA hcc,cT (t:=bz) hc]
  by_cases a1:(4:Int)<(d.2.2.2.1[c].2.2.1.length:Int)
  ·rw[cH a1];exact⟨_,rfl,rfl⟩
  ·rw[aC (show¬decide ((4:Int)<(d.2.2.2.1[c].2.2.1.length:Int))=true by simpa using a1),ei c,aA hcc]
   by_cases a2:(5:Int)<(d.2.2.2.1[c].2.2.2.1.length:Int)
   ·rw[cH a2];exact⟨_,rfl,rfl⟩
   ·rw[aC (show¬decide ((5:Int)<(d.2.2.2.1[c].2.2.2.1.length:Int))=true by simpa using a2),ei c,aA hcc,aJ]
    by_cases a3:(6:Int)<(d.2.2.2.1[c].2.2.2.2.1.length:Int)
    ·rw[cH a3];exact⟨_,rfl,rfl⟩
    ·rw[aC (show¬decide ((6:Int)<(d.2.2.2.1[c].2.2.2.2.1.length:Int))=true by simpa using a3),hw2]
     refine kk () fun j hj hjc=>?_
     by_cases e:j=c
     ·subst e;omega
     ·exact hI j hj (by omega)
 case stop=>
  intro rec _ hI
  dsimp only
  rw[gu (by omega)]
  exact⟨_,rfl,rfl,fun j hj=>hI j hj hj⟩
 obtain⟨rfl,hs⟩:=hd
 refine bN.2 (W.ct (cD (L:=yz) rfl (CT (fun d=>d=d') fun r=>r=false) d'.2.2.2.2.1.length (fun c(_:Unit)=>((c:Int),d')) (fun _ _=>True) ?step ?stop gD 0 () (nb _ h5) (by omega) trivial) (fun d hd=>?_) fun r hr=>by subst hr;exact no)
 case step=>
  intro rec c _ hc _ kk
  dsimp only
  have hw2:=ka c (by omega)
  have hcc:(c:Int)<(d'.2.2.2.2.1.length:Int):=by omega
  rw[cH hcc,ei c,aA hcc]
  split
  ·exact⟨_,rfl,rfl⟩
  ·rw[hw2];exact kk () trivial
 case stop=>
  intro rec _ _
  dsimp only
  rw[gu (by omega)]
  exact⟨_,rfl,rfl⟩
 subst hd
 refine bN.2 (W.ct (cD (L:=yA) rfl (CT (fun d'=>d'=d) fun r=>r=false) d.2.2.2.2.2.1.length (fun c(_:Unit)=>((c:Int),d)) (fun _ _=>True) ?step ?stop gD 0 () (nb _ h6) (by omega) trivial) (fun d' hd=>?_) fun r hr=>by subst hr;exact no)
 case step=>
  intro rec c _ hc _ kk
  dsimp only
  have hw2:=ka c (by omega)
  have hcc:(c:Int)<(d.2.2.2.2.2.1.length:Int):=by omega
  rw[cH hcc,ei c,aA hcc]
  split
  ·exact⟨_,rfl,rfl⟩
  ·rw[hw2];exact kk () trivial
 case stop=>
  intro rec _ _
  dsimp only
  rw[gu (by omega)]
  exact⟨_,rfl,rfl⟩
 subst hd
 by_cases c1:(d'.1.length:Int)≤4
 ·rw[cH c1]
  by_cases c2:(d'.2.1.length:Int)≤5
  ·rw[cH c2]
   by_cases c3:(d'.2.2.1.length:Int)≤6
   ·rw[cH c3]
    by_cases c4:(d'.2.2.2.1.length:Int)≤4
    ·rw[cH c4]
     have fJ:FT d':=⟨by omega,by omega,fun x hx=>by
      obtain⟨j,hj,rfl⟩:=gH hx
      exact hf j hj,fun x hx=>by
      obtain⟨j,hj,rfl⟩:=gH hx
      exact hs j hj⟩
     split
     ·exact⟨_,rfl,fun _=>fJ⟩
     ·exact⟨_,rfl,no⟩
    ·rw[aC (show¬decide ((d'.2.2.2.1.length:Int)≤4)=true by simpa using c4)];exact⟨_,rfl,no⟩
   ·rw[aC (show¬decide ((d'.2.2.1.length:Int)≤6)=true by simpa using c3)];exact⟨_,rfl,no⟩
  ·rw[aC (show¬decide ((d'.2.1.length:Int)≤5)=true by simpa using c2)];exact⟨_,rfl,no⟩
 ·rw[aC (show¬decide ((d'.1.length:Int)≤4)=true by simpa using c1)];exact⟨_,rfl,no⟩
theorem I1(w:bT)(h:SS w.1.1):∃r,f38 w=some r∧(r=true→FT w.1.1):=by
 obtain⟨r,e,hr⟩:=I0 w.1.1 h
 unfold f38 f64
 rw[e,aJ]
 cases r with
 |false=>exact⟨false,rfl,fun h=>(by cases h)⟩
 |
  true=>
  have ht:=hr rfl
  rw[aA rfl,aJ,aJ]
  split
  ·exact⟨_,rfl,fun _=>ht⟩
  ·exact⟨false,rfl,fun h=>(by cases h)⟩
theorem I2(w:bT)(h:SS w.1.1):∃r,f19 w=some r∧(r=true→FT w.1.1):=by
 have hB:=hB
 have h4:=h.rules
 suffices hW:W (f19 w) fun r=>r=true→FT w.1.1 by
  obtain⟨r,e,h⟩:=hW
  exact⟨r,e,h⟩
 have no:(false:Bool)=true→FT w.1.1:=fun h=>(by cases h)
 unfold f19
 refine bN.2 (W.ct (cD (L:=EH) rfl (CT (fun d=>d=(w,w.1.1)) fun r=>r=false) w.1.1.2.2.2.1.length (fun c(_:Unit)=>((c:Int),w,w.1.1)) (fun _ _=>True) ?step ?stop gD 0 () (by show _<18446744073709551616;omega) (by omega) trivial) (fun d hd=>?_) fun r hr=>by subst hr;exact no)
 case step=>
  intro rec c _ hc _ kk
  dsimp only
  have hw2:=ka c (by omega)
  have hcc:(c:Int)<(w.1.1.2.2.2.1.length:Int):=by omega
  rw[cH hcc,ei c,aA hcc]
  split
  ·exact⟨_,rfl,rfl⟩
  ·rw[hw2];exact kk () trivial
 case stop=>
  intro rec _ _
  dsimp only
  rw[gu (by omega)]
  exact⟨_,rfl,rfl⟩
 subst hd
 dsimp only
 obtain⟨r,e,hr⟩:=I1 w h
 rw[e,aJ]
 cases r with
 |false=>exact⟨false,rfl,no⟩
 |
  true=>
  have ht:=hr rfl
  rw[aA rfl]
  split
  ·exact⟨_,rfl,fun _=>ht⟩
  ·exact⟨false,rfl,no⟩
def keyF(k:gX)(l:Zk):Zk:=l.filter fun f=>aY bx f.1 k
theorem keyF_snoc(k:gX)(l:Zk)(x:eQ):keyF k (l++[x])=keyF k l++if aY bx x.1 k=true then[x] else[]:=by
 unfold keyF
 rw[List.filter_append,oi]
 rfl
def derM(l:Zn):Zm:=l.foldl (fun m u=>bB (.int .i64) u.2.1 true m) []
theorem derM_snoc(l:Zn)(u:dq):derM (l++[u])=bB (.int .i64) u.2.1 true (derM l):=by
 unfold derM
 rw[List.foldl_append]
 rfl
theorem derM_len':∀(l:Zn)(m:Zm),(l.foldl (fun m u=>bB (.int .i64) u.2.1 true m) m).length≤m.length+l.length
 |[],m=>cL _
 |
  u::l,m=>by
  have h:=derM_len' l (bB (.int .i64) u.2.1 true m)
  have h2:(bB (.int .i64) u.2.1 true m).length≤m.length+1:=dr (kt:=.int .i64)
  rw[List.foldl_cons,dH]
  omega
theorem derM_len(l:Zn):(derM l).length≤l.length:=by
 have h:=derM_len' l []
 rw[jK,dN] at h
 exact h
theorem derM_get'(a:Int):∀(l:Zn)(m:Zm),bw (.int .i64) .bool a (l.foldl (fun m u=>bB (.int .i64) u.2.1 true m) m)=true→bw (.int .i64) .bool a m=true∨∃u∈l,u.2.1=a
 |[],m,h=>Or.inl h
 |
  u::l,m,h=>by
  rw[List.foldl_cons] at h
  rcases derM_get' a l _ h with h|⟨v,hv,e⟩
  ·by_cases e:a=u.2.1
   ·exact Or.inr ⟨u,du ..,e.symm⟩
   ·rw[dj (kt:=.int .i64) (vt:=.bool) rfl e] at h
    exact Or.inl h
  ·exact Or.inr ⟨v,dT _ hv,e⟩
theorem derM_get(a:Int)(l:Zn)(h:bw (.int .i64) .bool a (derM l)=true):∃u∈l,u.2.1=a:=(derM_get' a l [] h).elim (fun h=>(by cases h)) id
theorem take_snoc{α:Type}(l:List α)(c:Nat)(h:c<l.length):l.take (c+1)=l.take c++[l[c]]:=List.take_succ_eq_append_getElem h
theorem newF_u(w:bT)(hf:w.2.1.length≤1000000)(hr:w.1.1.2.2.2.1.length≤aE)(d k:Int)(v:Bool):
 ∃ix:ZJ,qo w d k v=some (w,some ix,d,k,v,some (derM w.1.1.2.2.2.1),(),[],[],[])∧∀key,bw bx (.slice 64 aO) key ix=keyF key w.2.1:=by
 have hB:=hB
 suffices hW:W (qo w d k v) fun r=>∃ix:ZJ,r=(w,some ix,d,k,v,some (derM w.1.1.2.2.2.1),(),[],[],[])∧∀key,bw bx (.slice 64 aO) key ix=keyF key w.2.1 by
  obtain⟨r,e,ix,rfl,h⟩:=hW
  exact⟨ix,e,h⟩
 unfold qo
 refine bN.2 (W.ct (cD (L:=vS) rfl (CT (fun r=>∃ix:ZJ,r=(d,k,w,ix,([]:Zm),w,0,0,v)∧∀key,bw bx (.slice 64 aO) key ix=keyF key w.2.1) fun _=>False) w.2.1.length (fun c(ix:ZJ)=>(d,k,w.2.1,(w.2.1.length:Int),(c:Int),w,ix,([]:Zm),w,0,0,v)) (fun c ix=>ix.length≤2*c∧∀key,bw bx (.slice 64 aO) key ix=keyF key (w.2.1.take c)) ?step ?stop _ 0 [] (by omega) (by omega) ⟨fg _,fun key=>rfl⟩) (fun r hr=>?_) fun r hr=>hr.elim)
 case step=>
  rintro rec c ix hc ⟨hl,hI⟩ kk
  dsimp only
  have hw2:=ka c (by omega)
  have hcc:(c:Int)<(w.2.1.length:Int):=by omega
  rw[cH hcc,ei c,aA hcc,cT (t:=aO) hc]
  have ht:=take_snoc w.2.1 c hc
  generalize w.2.1[c]=x at ht ⊢
  have h1:(bw bx (.slice 64 aO) x.1 ix).length≤w.2.1.length:=by
   rw[hI x.1]
   exact cG (sE ..) (by rw[lO];omega)
  rw[aA ((gC bx x.1 x.1).2 rfl),aA (show ix.length+1≤aE by omega),aA (show((bw bx (.slice 64 aO) x.1 ix).length+List.length [x])*64≤aE by rw[cM];omega),hw2]
  refine kk _ ⟨?_,fun key=>?_⟩
  ·have q1:(bB bx x.1 (Ty.aD (.slice 64 aO)) ix).length≤ix.length+1:=dr (kt:=bx)
   have q2:(bB bx x.1 (bw bx (.slice 64 aO) x.1 ix++[x]) (bB bx x.1 (Ty.aD (.slice 64 aO)) ix)).length≤(bB bx x.1 (Ty.aD (.slice 64 aO)) ix).length+1:=dr (kt:=bx)
   omega
  ·rw[ht,keyF_snoc]
   by_cases e:key=x.1
   ·subst e
    rw[dp (kt:=bx) (vt:=.slice 64 aO) rfl,hI,aA ((gC bx x.1 x.1).2 rfl)]
   ·rw[dj (kt:=bx) (vt:=.slice 64 aO) rfl e,dj (kt:=bx) (vt:=.slice 64 aO) rfl e,hI,aC (fun h=>e ((gC bx x.1 key).1 h).symm),gI]
 case stop=>
  rintro rec ix ⟨hl,hI⟩
  dsimp only
  rw[gu (by omega)]
  rw[List.take_length] at hI
  exact⟨_,rfl,ix,rfl,hI⟩
 obtain⟨ix,rfl,hI⟩:=hr
 dsimp only
 refine bN.2 (W.ct (cD (L:=vT) rfl (CT (fun r=>r=(d,k,ix,derM w.1.1.2.2.2.1,w,0,0,v)) fun _=>False) w.1.1.2.2.2.1.length (fun c(m:Zm)=>(d,k,w.1.1.2.2.2.1,(w.1.1.2.2.2.1.length:Int),(c:Int),ix,m,w,0,0,v)) (fun c m=>m=derM (w.1.1.2.2.2.1.take c)) ?step ?stop _ 0 [] (by omega) (by omega) rfl) (fun r hr=>?_) fun r hr=>hr.elim)
 case step=>
  rintro rec c m hc rfl kk
  dsimp only
  have hw2:=ka c (by omega)
  have hcc:(c:Int)<(w.1.1.2.2.2.1.length:Int):=by omega
  have hl:=derM_len (w.1.1.2.2.2.1.take c)
  rw[lO] at hl
  rw[cH hcc,ei c,aA hcc,aA (show(derM (w.1.1.2.2.2.1.take c)).length+1≤aE by omega),hw2,cT (t:=bz) hc]
  exact kk _ (by rw[take_snoc _ _ hc,derM_snoc])
 case stop=>
  rintro rec m rfl
  dsimp only
  rw[gu (by omega),List.take_length]
  exact⟨_,rfl,rfl⟩
 subst hr
 exact⟨_,rfl,ix,rfl,hI⟩
theorem sd{α β:Type}{f:α→List β}{n:Nat}:∀{l:List α},(∀x∈l,(f x).length≤n)→(l.flatMap f).length≤l.length*n
 |[],_=>fg _
 |
  x::l,h=>by
  have h1:=h x (du ..)
  have h2:=sd (f:=f) (n:=n) (l:=l) fun y hy=>h y (dT _ hy)
  rw[List.flatMap_cons,dZ,dH,fp]
  omega
def zH(w:bT)(p:Int):Ze:=0::p::(w.2.1.map (fun f=>f.2.1)++w.1.1.2.2.2.1.flatMap fun u=>u.2.2.2.2.1.map fun t=>t.2.2.1.2.2.2.2.1)
def Uo(w:bT)(p:Int)(x:Pl):List Pl:=x::(List.range w.1.1.2.2.1.length).flatMap fun(i:Nat)=>(zH w p).flatMap fun(q:Int)=>(List.range 4).map fun(j:Nat)=>(((i:Int),(q,((j:Int),()))):Pl)
theorem I3{w:bT}(p:Int)(hT:FT w.1.1)(hf:w.2.1.length≤30):(zH w p).length≤56:=by
 have h:=sd (f:=fun u:dq=>u.2.2.2.2.1.map fun t=>t.2.2.1.2.2.2.2.1) (n:=6) (l:=w.1.1.2.2.2.1) fun x hx=>by rw[iO];exact hT.TC x hx
 have h4:=hT.rules
 unfold zH
 rw[dH,dH,dZ,iO]
 omega
theorem Gp{w:bT}(p:Int)(x:Pl)(hT:FT w.1.1)(hf:w.2.1.length≤30):(Uo w p x).length≤1400:=by
 have h1:=I3 p hT hf
 have h2:∀i:Nat,((zH w p).flatMap fun(q:Int)=>(List.range 4).map fun(j:Nat)=>(((i:Int),(q,((j:Int),()))):Pl)).length≤224:=fun i=>by
  have:=sd (f:=fun(q:Int)=>(List.range 4).map fun(j:Nat)=>(((i:Int),(q,((j:Int),()))):Pl)) (n:=4) (l:=zH w p) fun y _=>by rw[iO,List.length_range];exact cL _
  omega
 have h3:=sd (f:=fun(i:Nat)=>(zH w p).flatMap fun(q:Int)=>(List.range 4).map fun(j:Nat)=>(((i:Int),(q,((j:Int),()))):Pl)) (n:=224) (l:=List.range w.1.1.2.2.1.length) fun i _=>h2 i
 rw[List.length_range] at h3
 have h4:=hT.schemas
 unfold Uo
 rw[dH]
 omega
theorem Yq{w:bT}{lo:Ze}(hc:CG w.1.1 lo)(hT:FT w.1.1)(hf:w.2.1.length≤30)(p:Int)(x:Pl){ix:Ix}(hix:IX (zH w p) ix):WX w lo (zH w p) (Uo w p x) ix where
 cg:=hc
 zero:=du ..
 consts u hu t ht:=dT _ (dT _ (mV _ (List.mem_flatMap.2 ⟨u,hu,List.mem_map.2 ⟨t,ht,rfl⟩⟩)))
 pl a q i a0 a1 hq i0 i1:=by
  refine dT _ (List.mem_flatMap.2 ⟨a.toNat,List.mem_range.2 (by omega),List.mem_flatMap.2 ⟨q,hq,List.mem_map.2 ⟨i.toNat,List.mem_range.2 (by omega),?_⟩⟩⟩)
  have e1:((a.toNat:Nat):Int)=a:=by omega
  have e2:((i.toNat:Nat):Int)=i:=by omega
  rw[e1,e2]
 len:=cG (Gp p x hT hf) (by decide)
 fl a a0 a1:=by
  have:=hT.fields _ (dv (t:=bG) (l:=w.1.1.2.2.1) a0 a1)
  exact cG this (by decide)
 ix:=hix
theorem uO(s:cz)(hl:s.2.2.2.1.length≤aE)(a:Int):∃b,f32 s a=some b∧(b=true↔∃u∈s.2.2.2.1,u.2.1=a):=by
 have hB:=hB
 suffices hW:W (f32 s a) fun b=>b=true↔∃u∈s.2.2.2.1,u.2.1=a by
  obtain⟨r,e,h⟩:=hW
  exact⟨r,e,h⟩
 unfold f32
 refine bN.2 (W.ct (cD (L:=EI) rfl (CT (fun _=>∀j(hj:j<s.2.2.2.1.length),s.2.2.2.1[j].2.1≠a) fun r=>r=true∧∃u∈s.2.2.2.1,u.2.1=a) s.2.2.2.1.length (fun c(_:Unit)=>(a,(c:Int),s)) (fun c _=>∀j(hj:j<s.2.2.2.1.length),j<c→s.2.2.2.1[j].2.1≠a) ?step ?stop gD 0 () (by show _<18446744073709551616;omega) (by omega) (fun j _ h=>absurd h (Nat.not_lt_zero _))) (fun d hd=>?_) fun r hr=>?_)
 case step=>
  intro rec c _ hc hI kk
  dsimp only
  have hw2:=ka c (by omega)
  have hcc:(c:Int)<(s.2.2.2.1.length:Int):=by omega
  rw[cH hcc,ei c,aA hcc,cT (t:=bz) hc]
  by_cases e:s.2.2.2.1[c].2.1=a
  ·rw[cH e]
   exact⟨_,rfl,rfl,_,jn hc,e⟩
  ·rw[aC (show¬decide (s.2.2.2.1[c].2.1=a)=true by simpa using e),hw2]
   refine kk () fun j hj hjc=>?_
   by_cases e2:j=c
   ·subst e2;exact e
   ·exact hI j hj (by omega)
 case stop=>
  intro rec _ hI
  dsimp only
  rw[gu (by omega)]
  exact⟨_,rfl,fun j hj=>hI j hj hj⟩
 ·refine⟨false,rfl,fun h=>(by cases h),?_⟩
  rintro⟨u,hu,e⟩
  obtain⟨j,hj,rfl⟩:=gH hu
  exact absurd e (hd j hj)
 ·obtain⟨rfl,h⟩:=hr
  exact⟨fun _=>h,fun _=>rfl⟩
theorem nth_setN{l:Ze}{i j:Nat}(v:Int)(_hi:i<l.length)(hj:j<l.length):nth (.int .i64) (l.set i v) (j:Int)=if i=j then v else nth (.int .i64) l (j:Int):=by
 have hj':j<(l.set i v).length:=by rw[bQ];exact hj
 rw[cT (t:=.int .i64) hj',cT (t:=.int .i64) hj,List.getElem_set]
theorem imax_le{a:Int}{c:Nat}:imax a 0≤(c:Int)↔a≤(c:Int):=by unfold imax;split<;>omega
theorem imax_p{a:Int}(h:0≤a):imax a (-1)=a:=by unfold imax;split<;>omega
theorem imax_n{a:Int}(h:¬0≤a):imax a (-1)= -1:=by unfold imax;split<;>omega
theorem imin_lt{a:Int}{c:Nat}(hc:c<1024):(c:Int)<px a 1024↔(c:Int)<a:=by unfold px;split<;>omega
theorem wm1{y:Int}{i n:Nat}(h0:0≤y)(h1:y≤(i:Int))(hi:i<n)(hn:n≤1000)(hz:¬y=0):aZ (y -1)=y -1∧0≤y -1∧y -1<(n:Int):=⟨fA (by omega) (by omega),by omega,by omega⟩
def updC(own:Zk)(i:Nat)(x:eQ)(dy:Nat)(c:Int):Int:=if x.2.2.1.1≤(dy:Int)∧(dy:Int)<x.2.2.1.2.1∧(c=0∨xZ (nth aO own (c -1)) x≤0) then((i+1:Nat):Int) else c
theorem paint7(own:Zk)(hown:own.length≤1000)(i:Nat)(hi:i<own.length)(x:eQ)(c:Ze)(hc:c.length=1024)(hr:∀dy<1024,0≤nth (.int .i64) c ((dy:Nat):Int)∧nth (.int .i64) c ((dy:Nat):Int)≤(i:Int)):
 W (mG gD (own,(i:Int),imax x.2.2.1.1 (0:Int),own,(own.length:Int),(i:Int),c,x)) (CT (fun d=>∃c',d=(own,own,(own.length:Int),(i:Int),c')∧c'.length=1024∧∀dy<1024,nth (.int .i64) c' ((dy:Nat):Int)=updC own i x dy (nth (.int .i64) c ((dy:Nat):Int))) fun _=>False):=by
 have hB:=hB
 have h0:0≤imax x.2.2.1.1 0:=by unfold imax;split<;>omega
 obtain⟨lo,hlo⟩:∃lo:Nat,imax x.2.2.1.1 (0:Int)=(lo:Int):=⟨(imax x.2.2.1.1 0).toNat,by omega⟩
 have key:∀(n k:Nat)(e:Ze),1024 -k<n→lo≤k→e.length=1024→(∀dy<1024,nth (.int .i64) e ((dy:Nat):Int)=if dy<k then updC own i x dy (nth (.int .i64) c ((dy:Nat):Int)) else nth (.int .i64) c ((dy:Nat):Int))→
  W (mG n (own,(i:Int),(k:Int),own,(own.length:Int),(i:Int),e,x)) (CT (fun d=>∃c',d=(own,own,(own.length:Int),(i:Int),c')∧c'.length=1024∧∀dy<1024,nth (.int .i64) c' ((dy:Nat):Int)=updC own i x dy (nth (.int .i64) c ((dy:Nat):Int))) fun _=>False):=by
  intro n
  induction n with
  |zero=>intro k e h;omega
  |
   succ n ih=>
   intro k e hn hk he hI
   unfold mG at ih ⊢
   rw[aM]
   generalize aK _ n=rec at ih ⊢
   dsimp only
   by_cases hlt:(k:Int)<px x.2.2.1.2.1 (1024:Int)
   ·have hk2:k<1024:=by unfold px at hlt;split at hlt<;>omega
    have hk3:(k:Int)<(1024:Int):=by omega
    have hw2:=ka k (by omega)
    have hwi:=ka i (by omega)
    have hkT:(k:Int)<x.2.2.1.2.1:=(imin_lt hk2).1 hlt
    have hkF:x.2.2.1.1≤(k:Int):=imax_le.1 (by rw[hlo];omega)
    have hek:nth (.int .i64) e ((k:Nat):Int)=nth (.int .i64) c ((k:Nat):Int):=by rw[hI k hk2,aC (by omega)]
    obtain⟨r0,r1⟩:=hr k hk2
    rw[cH hlt,ei k,aA hk3,hek]
    have next:∀e':Ze,e'.length=1024→(∀dy<1024,nth (.int .i64) e' ((dy:Nat):Int)=if dy<k+1 then updC own i x dy (nth (.int .i64) c ((dy:Nat):Int)) else nth (.int .i64) c ((dy:Nat):Int))→W (rec (own,(i:Int),((k+1:Nat):Int),own,(own.length:Int),(i:Int),e',x)) (CT (fun d=>∃c',d=(own,own,(own.length:Int),(i:Int),c')∧c'.length=1024∧∀dy<1024,nth (.int .i64) c' ((dy:Nat):Int)=updC own i x dy (nth (.int .i64) c ((dy:Nat):Int))) fun _=>False):=fun e' h1 h2=>ih (k+1) e' (by omega) (by omega) h1 h2
    have yes:updC own i x k (nth (.int .i64) c ((k:Nat):Int))=((i+1:Nat):Int)→W (rec (own,(i:Int),aZ ((k:Int)+(1:Int)),own,(own.length:Int),(i:Int),List.set e (Int.toNat (k:Int)) (aZ ((i:Int)+(1:Int))),x)) (CT (fun d=>∃c',d=(own,own,(own.length:Int),(i:Int),c')∧c'.length=1024∧∀dy<1024,nth (.int .i64) c' ((dy:Nat):Int)=updC own i x dy (nth (.int .i64) c ((dy:Nat):Int))) fun _=>False):=fun hu=>by
     rw[hw2,hwi,dO]
     refine next _ (by rw[bQ];exact he) fun dy hdy=>?_
     rw[nth_setN _ (by omega) (by omega)]
     by_cases e1:k=dy
     ·subst e1;rw[aA rfl,aA (by omega),hu]
     ·rw[aC e1,hI dy hdy]
      by_cases e2:dy<k
      ·rw[aA e2,aA (by omega)]
      ·rw[aC e2,aC (by omega)]
    have no:updC own i x k (nth (.int .i64) c ((k:Nat):Int))=nth (.int .i64) c ((k:Nat):Int)→W (rec (own,(i:Int),aZ ((k:Int)+(1:Int)),own,(own.length:Int),(i:Int),e,x)) (CT (fun d=>∃c',d=(own,own,(own.length:Int),(i:Int),c')∧c'.length=1024∧∀dy<1024,nth (.int .i64) c' ((dy:Nat):Int)=updC own i x dy (nth (.int .i64) c ((dy:Nat):Int))) fun _=>False):=fun hu=>by
     rw[hw2]
     refine next _ he fun dy hdy=>?_
     rw[hI dy hdy]
     by_cases e1:dy=k
     ·subst e1;rw[aC (by omega),aA (by omega),hu]
     ·by_cases e2:dy<k
      ·rw[aA e2,aA (by omega)]
      ·rw[aC e2,aC (by omega)]
    generalize nth (.int .i64) c ((k:Nat):Int)=y at r0 r1 yes no ⊢
    by_cases hz:y=0
    ·rw[cH hz,aJ,aA rfl,ei k,aA hk3]
     exact yes (by unfold updC;rw[aA ⟨hkF,hkT,Or.inl hz⟩])
    ·obtain⟨hw3,hw4,hw5⟩:=wm1 r0 r1 hi hown hz
     rw[aC (fun h=>hz (jL h)),ei k,aA hk3,hw3,aA hw4,aA hw5,GJ,aJ,aJ]
     by_cases ho:xZ (nth aO own (y -1)) x≤0
     ·rw[cH ho,ei k,aA hk3]
      exact yes (by unfold updC;rw[aA ⟨hkF,hkT,Or.inr ho⟩])
     ·rw[aC (fun h=>ho (jL h))]
      exact no (by unfold updC;rw[aC (fun h=>h.2.2.elim hz ho)])
   ·rw[aC (fun h=>hlt (jL h))]
    refine⟨_,rfl,e,rfl,he,fun dy hdy=>?_⟩
    rw[hI dy hdy]
    split
    ·rfl
    ·rename_i hge
     unfold updC
     rw[aC]
     rintro⟨_,h2,_⟩
     exact hlt (Int.lt_of_le_of_lt (by omega) ((imin_lt hdy).2 h2))
 rw[hlo]
 refine key gD lo c (by show _<18446744073709551616;omega) (cL _) hc fun dy hdy=>?_
 split
 ·rename_i h
  unfold updC
  rw[aC]
  rintro⟨h1,_,_⟩
  have:=(imax_le (a:=x.2.2.1.1) (c:=dy)).2 h1
  rw[hlo] at this
  omega
 ·rfl
def CIr(own:Zk)(c dy:Nat)(v:Int):Prop:=0≤v∧v≤(c:Int)∧(((own.take c).foldl (eI (dy:Int)) (zF,false)).2=false→v=0)∧(((own.take c).foldl (eI (dy:Int)) (zF,false)).2=true→1≤v∧nth aO own (v -1)=((own.take c).foldl (eI (dy:Int)) (zF,false)).1)
theorem CIr.next{own:Zk}{c dy:Nat}{v:Int}(h:CIr own c dy v)(hc:c<own.length):CIr own (c+1) dy (updC own c own[c] dy v):=by
 obtain⟨h0,h1,h2,h3⟩:=h
 unfold CIr
 rw[List.take_succ_eq_append_getElem hc,List.foldl_append,List.foldl_cons,List.foldl_nil]
 generalize (own.take c).foldl (eI (dy:Int)) (zF,false)=st at h2 h3 ⊢
 have hx:nth aO own (((c+1:Nat):Int) -1)=own[c]:=by
  have e:(((c+1:Nat):Int) -1)=(c:Int):=by omega
  rw[e,cT (t:=aO) hc]
 unfold updC eI
 have hiff:(own[c].2.2.1.1≤(dy:Int)∧(dy:Int)<own[c].2.2.1.2.1∧(v=0∨xZ (nth aO own (v -1)) own[c]≤0))↔(own[c].2.2.1.1≤(dy:Int)∧(dy:Int)<own[c].2.2.1.2.1∧(st.2=false∨xZ st.1 own[c]≤0)):=by
  cases hs:st.2 with
  |
   false=>
   have:=h2 hs
   exact⟨fun h=>⟨h.1,h.2.1,Or.inl rfl⟩,fun h=>⟨h.1,h.2.1,Or.inl this⟩⟩
  |
   true=>
   obtain⟨q1,q2⟩:=h3 hs
   rw[q2]
   exact⟨fun h=>⟨h.1,h.2.1,h.2.2.elim (fun h=>by omega) Or.inr⟩,fun h=>⟨h.1,h.2.1,h.2.2.elim (fun h=>by cases h) Or.inr⟩⟩
 by_cases hcnd:own[c].2.2.1.1≤(dy:Int)∧(dy:Int)<own[c].2.2.1.2.1∧(v=0∨xZ (nth aO own (v -1)) own[c]≤0)
 ·rw[aA hcnd,aA (hiff.1 hcnd)]
  exact⟨dD _,kg _,fun h=>(by cases h),fun _=>⟨by omega,hx⟩⟩
 ·rw[aC hcnd,aC fun h=>hcnd (hiff.2 h)]
  exact⟨h0,by omega,h2,h3⟩
theorem paint4(own:Zk)(hown:own.length≤1000):
 W (kA (Int.toNat (List.length own:Int)+1) (own,own,(List.length own:Int),0,Ty.aD iI)) (CT (fun d=>∃c:Ze,d=(own,c)∧c.length=1024∧∀dy<1024,CIr own own.length dy (nth (.int .i64) c ((dy:Nat):Int))) fun _=>False):=by
 have hB:=hB
 have hz:(oW:Ze).length=1024:=by unfold oW;rw[jJ]
 have hz0:∀dy<1024,nth (.int .i64) oW ((dy:Nat):Int)=0:=fun dy hdy=>by
  rw[cT (t:=.int .i64) (by rw[hz];exact hdy)]
  unfold oW
  rw[List.getElem_replicate]
 refine cD (L:=kA) rfl _ own.length (fun c(e:Ze)=>(own,own,(own.length:Int),(c:Int),e)) (fun c e=>e.length=1024∧∀dy<1024,CIr own c dy (nth (.int .i64) e ((dy:Nat):Int))) ?step ?stop _ 0 oW (by omega) (by omega) ⟨hz,fun dy hdy=>?_⟩
 case step=>
  rintro rec c e hc ⟨he,hI⟩ kk
  dsimp only
  have hw2:=ka c (by omega)
  have hcc:(c:Int)<(own.length:Int):=by omega
  rw[cH hcc,ei c,aA hcc,cT (t:=aO) hc]
  refine bN.2 ((paint7 own hown c hc own[c] e he fun dy hdy=>⟨(hI dy hdy).1,(hI dy hdy).2.1⟩).ct (fun d hd=>?_) fun r hr=>hr.elim)
  obtain⟨c',rfl,h1,h2⟩:=hd
  dsimp only
  rw[hw2]
  exact kk c' ⟨h1,fun dy hdy=>by rw[h2 dy hdy];exact(hI dy hdy).next hc⟩
 case stop=>
  rintro rec e ⟨he,hI⟩
  dsimp only
  rw[gu (by omega)]
  exact⟨_,rfl,e,rfl,he,hI⟩
 rw[hz0 dy hdy]
 exact⟨kg _,kg _,fun _=>rfl,fun h=>(by cases h)⟩
def PV(l:Zk)(k:gX)(dy known:Int):Int:=if(iU l k dy known).2=true then(iU l k dy known).1 else-1
theorem PV_at(l:Zk)(k:gX)(dy known:Int):iU l k dy known=if 0≤PV l k dy known then(PV l k dy known,true) else(0,false):=by
 unfold PV iU
 dsimp only
 split
 ·rename_i h
  rw[aA rfl,aA h.2]
 ·rfl
theorem at_of_PV{l m:Zk}{k:gX}{dy a b:Int}(h:PV l k dy a=PV m k dy b):iU l k dy a=iU m k dy b:=by
 rw[PV_at l,PV_at m,h]
theorem paint_eq(l:Zk)(k:gX)(known:Int)(hl:l.length≤1000):∃V:Ze,gQ l k known=some V∧V.length=1024∧∀dy<1024,nth (.int .i64) V ((dy:Nat):Int)=PV l k (dy:Int) known:=by
 have hB:=hB
 have hown:(l.filter (dg k known)).length≤1000:=cG (sE ..) hl
 have e1:jV l k known=some (l.filter (dg k known)):=by
  unfold jV
  rw[aA (by omega)]
 obtain⟨z,ez,hz⟩:=paint4 (l.filter (dg k known)) hown
 cases z with
 |ret r=>exact hz.elim
 |
  brk d=>
  obtain⟨c,rfl,hc,hI⟩:=hz
  have fJ:Qg (l.filter (dg k known)) c=true:=by
   unfold Qg
   refine List.all_eq_true.2 fun x hx=>?_
   obtain⟨j,hj,rfl⟩:=gH hx
   have:=(hI j (by omega)).2.1
   rw[cT (t:=.int .i64) hj] at this
   rw[cu (show c[j]≤((l.filter (dg k known)).length:Int) from this),cu (show((l.filter (dg k known)).length:Int)≤1000 by omega)]
   rfl
  refine⟨c.map (zX (l.filter (dg k known))),?_,by rw[iO];exact hc,fun dy hdy=>?_⟩
  ·unfold gQ
   rw[e1,aJ,ez,aH,aA hc,aA fJ]
  ·have hI:=hI dy hdy
   have hd:dy<c.length:=by omega
   rw[cT (t:=.int .i64) hd] at hI
   rw[cT (t:=.int .i64) (by rw[iO];exact hd),List.getElem_map]
   obtain⟨h0,h1,h2,h3⟩:=hI
   rw[List.take_length] at h2 h3
   have est:(l.filter (dg k known)).foldl (eI (dy:Int)) (zF,false)=gR k (dy:Int) known l (zF,false):=rfl
   rw[est] at h2 h3
   unfold zX PV iU
   dsimp only
   generalize gR k (dy:Int) known l (zF,false)=st at h2 h3 ⊢
   generalize c[dy]=v at h0 h1 h2 h3 ⊢
   by_cases hs:st.2=true
   ·obtain⟨q1,q2⟩:=h3 hs
    rw[aA (show(0:Int)<v by omega),q2]
    by_cases hp:0≤st.1.2.1
    ·have e:(if st.2=true∧0≤st.1.2.1 then(st.1.2.1,true) else((0:Int),false))=(st.1.2.1,true):=aA ⟨hs,hp⟩
     rw[e,aA rfl]
     exact imax_p hp
    ·have e:(if st.2=true∧0≤st.1.2.1 then(st.1.2.1,true) else((0:Int),false))=(0,false):=aC (fun h=>hp h.2)
     rw[e,aC (by decide)]
     exact imax_n hp
   ·have hv:=h2 (by simpa using hs)
    have e:(if st.2=true∧0≤st.1.2.1 then(st.1.2.1,true) else((0:Int),false))=(0,false):=aC (fun h=>hs h.1)
    rw[aC (by omega),e,aC (by decide)]
def COV(A B:Ze)(j:Nat)(m:ZG):Prop:=m.length≤j∧∀dy<j,nth (.int .i64) A ((dy:Nat):Int)≠nth (.int .i64) B ((dy:Nat):Int)→∃s∈m,s.1≤(dy:Int)∧(dy:Int)<s.2.1
theorem diff6(A B:Ze)(m:ZG)(hm:m.length≤1024):∀(n a:Nat)(e:Lb),1024 -a<n→a<1024→
 W (gZ n (A,B,(a:Int),e,m)) (CT (fun r=>∃a':Nat,∃e':Lb,r=(A,B,(a':Int),e',m)∧a≤a'∧a'<1024∧nth (.int .i64) A ((a':Nat):Int)=nth (.int .i64) B ((a':Nat):Int)∧e'.1=e.1∧(e.2.1=(a:Int)∨a<a'→e'.2.1=(a':Int))) fun r=>∃e':Lb,r= .ret (.brk (m++[e']))∧e'.1=e.1∧e'.2.1=1024):=by
 intro n
 have hB:=hB
 induction n with
 |zero=>intro a e h;omega
 |
  succ n ih=>
  intro a e hn ha
  unfold gZ at ih ⊢
  rw[aM]
  generalize aK _ n=rec at ih ⊢
  dsimp only
  have h3:(a:Int)<(1024:Int):=by omega
  have hw2:=ka a (by omega)
  rw[ei a,aA h3,ei a,aA h3,hw2]
  by_cases hab:nth (.int .i64) A ((a:Nat):Int)=nth (.int .i64) B ((a:Nat):Int)
  ·rw[aC (show¬(!decide (nth (.int .i64) A ((a:Nat):Int)=nth (.int .i64) B ((a:Nat):Int)))=true by rw[cu hab];decide)]
   exact⟨_,rfl,a,e,rfl,cL _,ha,hab,rfl,fun h=>h.elim id fun h=>absurd h (Nat.lt_irrefl _)⟩
  ·rw[aA (show(!decide (nth (.int .i64) A ((a:Nat):Int)=nth (.int .i64) B ((a:Nat):Int)))=true by rw[dz hab];rfl)]
   by_cases h4:a+1=1024
   ·have h5:((a+1:Nat):Int)=(1024:Int):=by omega
    rw[cH h5,aA (by rw[cM];omega)]
    exact⟨_,rfl,_,rfl,rfl,h5⟩
   ·have h5:¬((a+1:Nat):Int)=(1024:Int):=by omega
    rw[aC (fun h=>h5 (jL h))]
    refine(ih (a+1) (e.1,(((a+1:Nat):Int),e.2.2)) (by omega) (by omega)).ct (fun r hr=>?_) fun r hr=>?_
    ·obtain⟨a',e',rfl,g1,g2,g3,g4,g5⟩:=hr
     exact⟨a',e',rfl,by omega,g2,g3,g4,fun _=>g5 (Or.inl rfl)⟩
    ·exact hr
theorem diff2(A B:Ze):∀(n j:Nat)(m:ZG),1024 -j<n→j≤1024→COV A B j m→
 W (jc n (A,B,(j:Int),m)) (CT (fun L=>COV A B 1024 L) fun _=>False):=by
 intro n
 have hB:=hB
 induction n with
 |zero=>intro j m h;omega
 |
  succ n ih=>
  intro j m hn hj hm
  unfold jc at ih ⊢
  rw[aM]
  generalize aK _ n=rec at ih ⊢
  dsimp only
  by_cases h:j<1024
  ·have h3:(j:Int)<(1024:Int):=by omega
   have hw2:=ka j (by omega)
   rw[cH h3,ei j,aA h3,ei j,aA h3]
   by_cases hab:nth (.int .i64) A ((j:Nat):Int)=nth (.int .i64) B ((j:Nat):Int)
   ·rw[cH hab,aH]
    dsimp only
    rw[hw2]
    refine ih (j+1) m (by omega) (by omega) ⟨by have:=hm.1;omega,fun dy hdy hne=>?_⟩
    by_cases e:dy=j
    ·subst e;exact absurd hab hne
    ·exact hm.2 dy (by omega) hne
   ·rw[aC (fun h=>hab (jL h))]
    refine bN.2 (bN.2 ((diff6 A B m (by have:=hm.1;omega) gD j ((j:Int),((0:Int),())) (by show _<18446744073709551616;omega) h).ct (fun r hr=>?_) fun r hr=>?_))
    ·obtain⟨a',e',rfl,g1,g2,g3,g4,g5⟩:=hr
     have g6:j<a':=by
      rcases Nat.lt_or_ge j a' with h|h
      ·exact h
      ·have:a'=j:=by omega
       subst this
       exact absurd g3 hab
     dsimp only
     rw[aA (show(m.length+List.length [e'])*16≤aE by rw[cM];have:=hm.1;omega)]
     refine⟨_,rfl,?_⟩
     refine ih a' (m++[e']) (by omega) (by omega) ⟨by rw[dZ,cM];have:=hm.1;omega,fun dy hdy hne=>?_⟩
     by_cases e:dy<j
     ·obtain⟨s,hs,q⟩:=hm.2 dy e hne
      exact⟨s,iN _ hs,q⟩
     ·refine⟨e',mV _ (List.mem_singleton.2 rfl),?_,?_⟩
      ·have q:e'.1=(j:Int):=g4
       rw[q];omega
      ·have q:e'.2.1=(a':Int):=g5 (Or.inr g6)
       rw[q];omega
    ·obtain⟨e',rfl,g4,g5⟩:=hr
     show COV A B 1024 (m++[e'])
     refine⟨by rw[dZ,cM];have:=hm.1;omega,fun dy hdy hne=>?_⟩
     by_cases e:dy<j
     ·obtain⟨s,hs,q⟩:=hm.2 dy e hne
      exact⟨s,iN _ hs,q⟩
     ·refine⟨e',mV _ (List.mem_singleton.2 rfl),?_,?_⟩
      ·have q:e'.1=(j:Int):=g4
       rw[q];omega
      ·have q:e'.2.1=1024:=g5
       rw[q];omega
  ·have e:j=1024:=by omega
   subst e
   rw[aC (by decide)]
   exact⟨_,rfl,hm⟩
theorem diff_eq(A B:Ze):∃L,kP A B=some L∧COV A B 1024 L:=by
 obtain⟨z,ez,hz⟩:=diff2 A B gD 0 [] (by decide) (by omega) ⟨cL _,fun dy h=>absurd h (Nat.not_lt_zero _)⟩
 cases z with
 |ret r=>exact hz.elim
 |
  brk L=>
  refine⟨L,?_,hz⟩
  rw[yW]
  unfold nB
  have ez':jc gD (A,B,0,([]:ZG))=some (.brk L):=ez
  rw[ez',aH]
theorem group_eq(l:Zk)(hf:l.length≤1000000):∃ix:ZJ,f22 l=some (some ix)∧∀key,bw bx (.slice 64 aO) key ix=keyF key l:=by
 have hB:=hB
 suffices hW:W (f22 l) fun r=>∃ix:ZJ,r=some ix∧∀key,bw bx (.slice 64 aO) key ix=keyF key l by
  obtain⟨r,e,ix,rfl,h⟩:=hW
  exact⟨ix,e,h⟩
 unfold f22
 refine bN.2 (W.ct (cD (L:=GN) rfl (CT (fun ix=>∀key,bw bx (.slice 64 aO) key ix=keyF key l) fun _=>False) l.length (fun c(ix:ZJ)=>(l,(l.length:Int),(c:Int),ix)) (fun c ix=>ix.length≤2*c∧∀key,bw bx (.slice 64 aO) key ix=keyF key (l.take c)) ?step ?stop _ 0 [] (by omega) (by omega) ⟨fg _,fun key=>rfl⟩) (fun r hr=>⟨_,rfl,r,rfl,hr⟩) fun r hr=>hr.elim)
 case step=>
  rintro rec c ix hc ⟨hl,hI⟩ kk
  dsimp only
  have hw2:=ka c (by omega)
  have hcc:(c:Int)<(l.length:Int):=by omega
  rw[cH hcc,ei c,aA hcc,cT (t:=aO) hc]
  have ht:=take_snoc l c hc
  generalize l[c]=x at ht ⊢
  have h1:(bw bx (.slice 64 aO) x.1 ix).length≤l.length:=by
   rw[hI x.1]
   exact cG (sE ..) (by rw[lO];omega)
  rw[aA ((gC bx x.1 x.1).2 rfl),aA (show ix.length+1≤aE by omega),aA (show((bw bx (.slice 64 aO) x.1 ix).length+List.length [x])*64≤aE by rw[cM];omega),hw2]
  refine kk _ ⟨?_,fun key=>?_⟩
  ·have q1:(bB bx x.1 (Ty.aD (.slice 64 aO)) ix).length≤ix.length+1:=dr (kt:=bx)
   have q2:(bB bx x.1 (bw bx (.slice 64 aO) x.1 ix++[x]) (bB bx x.1 (Ty.aD (.slice 64 aO)) ix)).length≤(bB bx x.1 (Ty.aD (.slice 64 aO)) ix).length+1:=dr (kt:=bx)
   omega
  ·rw[ht,keyF_snoc]
   by_cases e:key=x.1
   ·subst e
    rw[dp (kt:=bx) (vt:=.slice 64 aO) rfl,hI,aA ((gC bx x.1 x.1).2 rfl)]
   ·rw[dj (kt:=bx) (vt:=.slice 64 aO) rfl e,dj (kt:=bx) (vt:=.slice 64 aO) rfl e,hI,aC (fun h=>e ((gC bx x.1 key).1 h).symm),gI]
 case stop=>
  rintro rec ix ⟨hl,hI⟩
  dsimp only
  rw[gu (by omega)]
  rw[List.take_length] at hI
  exact⟨_,rfl,hI⟩
theorem atF_key(l:Zk)(k:gX)(dy known:Int):iU (keyF k l) k dy known=iU l k dy known:=by
 have e:(keyF k l).filter (dg k known)=l.filter (dg k known):=by
  unfold keyF
  rw[List.filter_filter]
  refine List.filter_congr fun x _=>?_
  unfold dg
  cases aY bx x.1 k<;>simp
 unfold iU gR
 rw[e]
def Dk(l:Zk)(a b:Int)(k:gX):ZG:=(Option.bind (gQ (keyF k l) k a) fun V=>Option.bind (gQ (keyF k l) k b) fun X=>kP V X).getD []
theorem Dk_eq(l:Zk)(hl:l.length≤1000)(a b:Int)(k:gX):∃V X,gQ (keyF k l) k a=some V∧gQ (keyF k l) k b=some X∧kP V X=some (Dk l a b k)∧(Dk l a b k).length≤1024∧
 ∀dy<1024,iU l k ((dy:Nat):Int) a≠iU l k ((dy:Nat):Int) b→∃s∈Dk l a b k,s.1≤(dy:Int)∧(dy:Int)<s.2.1:=by
 have hk:(keyF k l).length≤1000:=cG (sE ..) hl
 obtain⟨V,e1,v1,v2⟩:=paint_eq (keyF k l) k a hk
 obtain⟨X,e2,x1,x2⟩:=paint_eq (keyF k l) k b hk
 obtain⟨L,e3,c1,c2⟩:=diff_eq V X
 have eD:Dk l a b k=L:=by unfold Dk;rw[e1,aJ,e2,aJ,e3];rfl
 refine⟨V,X,e1,e2,by rw[eD];exact e3,by rw[eD];exact c1,fun dy hdy hne=>?_⟩
 rw[eD]
 refine c2 dy hdy fun he=>hne ?_
 rw[v2 dy hdy,x2 dy hdy] at he
 rw[←atF_key l,←atF_key l k _ b]
 exact at_of_PV he
def OKr(l:Zk)(a b:Int)(q:vP):Prop:=∀s∈Dk l a b q.1,¬imax s.1 q.2.1<px s.2.1 q.2.2.1
theorem OKr.at'{l:Zk}(hl:l.length≤1000){a b:Int}{q:vP}(h:OKr l a b q){dy:Nat}(hdy:dy<1024)(h0:q.2.1≤(dy:Int))(h1:(dy:Int)<q.2.2.1):iU l q.1 ((dy:Nat):Int) a=iU l q.1 ((dy:Nat):Int) b:=by
 obtain⟨V,X,_,_,_,_,hc⟩:=Dk_eq l hl a b q.1
 refine Classical.byContradiction fun hne=>?_
 obtain⟨s,hs,s0,s1⟩:=hc dy hdy hne
 refine h s hs ?_
 unfold imax px
 split<;>split<;>omega
theorem alike11(a b:Int)(M:Ix)(rs:Zi)(n i:Int)(q:vP)(t:IW)(L:ZG)(hL:L.length≤1024):
 W (wi (Int.toNat (List.length L:Int)+1) (a,b,M,rs,n,i,L,(List.length L:Int),0,q,t)) (CT (fun r=>r=(a,b,M,rs,n,i,t)∧∀s∈L,¬imax s.1 q.2.1<px s.2.1 q.2.2.1) fun r=>r= .ret false):=by
 refine cD (L:=wi) rfl _ L.length (fun c(_:Unit)=>(a,b,M,rs,n,i,L,(L.length:Int),(c:Int),q,t)) (fun c _=>∀j(hj:j<L.length),j<c→¬imax L[j].1 q.2.1<px L[j].2.1 q.2.2.1) ?step ?stop _ 0 () (by omega) (by omega) (fun j _ h=>absurd h (Nat.not_lt_zero _))
 case step=>
  intro rec c _ hc hI kk
  dsimp only
  have hw2:=ka c (by omega)
  have hcc:(c:Int)<(L.length:Int):=by omega
  rw[cH hcc,ei c,aA hcc,cT (t:=nW) hc]
  by_cases h:imax L[c].1 q.2.1<px L[c].2.1 q.2.2.1
  ·rw[cH h];exact⟨_,rfl,rfl⟩
  ·rw[aC (fun h'=>h (jL h')),hw2]
   refine kk () fun j hj hjc=>?_
   by_cases e:j=c
   ·subst e;exact h
   ·exact hI j hj (by omega)
 case stop=>
  intro rec _ hI
  dsimp only
  rw[gu (by omega)]
  refine⟨_,rfl,rfl,fun s hs=>?_⟩
  obtain⟨j,hj,rfl⟩:=gH hs
  exact hI j hj hj
theorem alike_eq(l:Zk)(hl:l.length≤1000)(rs:Zi)(hr:rs.length≤1000000000)(a b:Int):∃r,f9 l rs a b=some r∧(r=true→∀q∈rs,OKr l a b q):=by
 have hB:=hB
 suffices hW:W (f9 l rs a b) fun r=>r=true→∀q∈rs,OKr l a b q by
  obtain⟨r,e,h⟩:=hW
  exact⟨r,e,h⟩
 obtain⟨ix,e1,hix⟩:=group_eq l (by omega)
 unfold f9
 rw[e1,aJ]
 refine bN.2 (W.ct (cD (L:=KT) rfl (CT (fun _=>∀j(hj:j<rs.length),OKr l a b rs[j]) fun r=>r=false) rs.length (fun c(t:IW)=>(a,b,some ix,rs,(rs.length:Int),(c:Int),t)) (fun c t=>t.length≤c∧(∀k,ck bx k t=true→bw bx (.slice 16 nW) k t=Dk l a b k)∧∀j(hj:j<rs.length),j<c→OKr l a b rs[j]) ?step ?stop _ 0 [] (by omega) (by omega) ⟨cL _,fun k h=>(by cases h),fun j _ h=>absurd h (Nat.not_lt_zero _)⟩) (fun r hr=>?_) fun r hr=>?_)
 case step=>
  rintro rec c t hc ⟨ht,hC,hI⟩ kk
  dsimp only
  have hw2:=ka c (by omega)
  have hcc:(c:Int)<(rs.length:Int):=by omega
  rw[cH hcc,ei c,aA hcc,cT (t:=bC) hc]
  have hI2:OKr l a b rs[c]→∀j(hj:j<rs.length),j<c+1→OKr l a b rs[j]:=fun h j hj hjc=>by
   by_cases e:j=c
   ·subst e;exact h
   ·exact hI j hj (by omega)
  generalize rs[c]=q at hI2 ⊢
  obtain⟨V,X,p1,p2,p3,p4,_⟩:=Dk_eq l hl a b q.1
  have fin:∀t':IW,t'.length≤c+1→(∀k,ck bx k t'=true→bw bx (.slice 16 nW) k t'=Dk l a b k)→bw bx (.slice 16 nW) q.1 t'=Dk l a b q.1→
   W (wi (Int.toNat (List.length (bw bx (.slice 16 nW) q.1 t'):Int)+1) (a,b,some ix,rs,(rs.length:Int),(c:Int),bw bx (.slice 16 nW) q.1 t',(List.length (bw bx (.slice 16 nW) q.1 t'):Int),0,q,t')) (CT (fun d=>W (rec (d.1,d.2.1,d.2.2.1,d.2.2.2.1,d.2.2.2.2.1,aZ (d.2.2.2.2.2.1+(1:Int)),d.2.2.2.2.2.2)) (CT (fun _=>∀j(hj:j<rs.length),OKr l a b rs[j]) fun r=>r=false)) (CT (fun _=>∀j(hj:j<rs.length),OKr l a b rs[j]) fun r=>r=false)):=fun t' h1 h2 h3=>by
   rw[h3]
   refine(alike11 a b (some ix) rs (rs.length:Int) (c:Int) q t' (Dk l a b q.1) p4).ct (fun d hd=>?_) fun r hr=>?_
   ·obtain⟨rfl,hd⟩:=hd
    dsimp only
    rw[hw2]
    exact kk t' ⟨h1,h2,hI2 hd⟩
   ·subst hr;exact rfl
  refine bN.2 ?_
  cases hm:ck bx q.1 t with
  |
   true=>
   rw[aC (show¬(!true)=true by decide),aH]
   exact fin t (by omega) hC (hC _ hm)
  |
   false=>
   have e2:bw bx (.slice 64 aO) q.1 (bM (some ix))=keyF q.1 l:=hix q.1
   rw[aA (show(!false)=true from rfl),e2,p1,aJ,p2,aJ,p3,aJ,aA (show t.length+1≤aE by omega),aH]
   refine fin (bB bx q.1 (Dk l a b q.1) t) (cG (dr (kt:=bx)) (by omega)) (fun k hk=>?_) (dp (kt:=bx) (vt:=.slice 16 nW) rfl _ _ _)
   by_cases e:k=q.1
   ·subst e;exact dp (kt:=bx) (vt:=.slice 16 nW) rfl _ _ _
   ·rw[fF (kt:=bx) rfl e] at hk
    rw[dj (kt:=bx) (vt:=.slice 16 nW) rfl e]
    exact hC k hk
 case stop=>
  rintro rec t ⟨ht,hC,hI⟩
  dsimp only
  rw[gu (by omega)]
  exact⟨_,rfl,fun j hj=>hI j hj hj⟩
 ·refine⟨_,rfl,fun _ q hq=>?_⟩
  obtain⟨j,hj,rfl⟩:=gH hq
  exact hr j hj
 ·subst hr;exact fun h=>(by cases h)
abbrev Rs:=uN
abbrev In:=uC
abbrev Rd:=vP
abbrev Ru:=dq
abbrev An:=Bool×In×List Rd
inductive Qy(α:Type) where
 |ret:α→Qy α
 |ask:Pl→(Bool→In→Qy α)→Qy α
def Qy.bind{α β:Type}:Qy α→(α→Qy β)→Qy β
 | .ret a,f=>f a
 | .ask p k,f=>.ask p fun b x=>(k b x).bind f
def Qy.run{α:Type}(O:Pl→An):Qy α→α×List Rd
 | .ret a=>(a,[])
 | .ask p k=>(((k (O p).1 (O p).2.1).run O).1,(O p).2.2++((k (O p).1 (O p).2.1).run O).2)
theorem Qy.run_bind{α β:Type}(O:Pl→An)(f:α→Qy β):∀x:Qy α,(x.bind f).run O=(((f (x.run O).1).run O).1,(x.run O).2++((f (x.run O).1).run O).2)
 | .ret a=>rfl
 |
  .ask p k=>by
  show((((k (O p).1 (O p).2.1).bind f).run O).1,(O p).2.2++(((k (O p).1 (O p).2.1).bind f).run O).2)=((((f ((k (O p).1 (O p).2.1).run O).1)).run O).1,((O p).2.2++((k (O p).1 (O p).2.1).run O).2)++((f ((k (O p).1 (O p).2.1).run O).1).run O).2)
  rw[Qy.run_bind O f (k (O p).1 (O p).2.1),List.append_assoc]
theorem Qy.two{α:Type}{O O':Pl→An}{G:Rd→Prop}{σ:Rd→Rd}(h:∀p,(∀r∈(O p).2.2,G r)→O' p=((O p).1,(O p).2.1,(O p).2.2.map σ)):∀x:Qy α,(∀r∈(x.run O).2,G r)→x.run O'=((x.run O).1,(x.run O).2.map σ)
 | .ret a,_=>rfl
 |
  .ask p k,hG=>by
  have h1:=h p fun r hr=>hG r (iN _ hr)
  have h2:=Qy.two h (k (O p).1 (O p).2.1) fun r hr=>hG r (mV _ hr)
  unfold Qy.run
  rw[h1,h2,qB]
open Classical in
def dW:List Rd→List Rd→List Rd
 |rs,[]=>rs
 |rs,r::t=>dW (if r∈rs then rs else rs++[r]) t
theorem gB:∀(a rs b:List Rd),dW rs (a++b)=dW (dW rs a) b
 |[],_,_=>rfl
 |r::a,rs,b=>gB a (if r∈rs then rs else rs++[r]) b
theorem me:∀(t rs:List Rd)(x:Rd),x∈dW rs t↔x∈rs∨x∈t
 |[],rs,x=>by simp[dW]
 |
  r::t,rs,x=>by
  unfold dW
  rw[me t]
  by_cases h:r∈rs
  ·rw[aA h,fe]
   exact⟨fun h=>h.imp id Or.inr,fun h'=>h'.elim Or.inl fun h'=>h'.elim (fun e=>Or.inl (e▸h)) Or.inr⟩
  ·rw[aC h,fe,j4,lj,or_assoc]
theorem tT:∀(t rs:List Rd),(∀r∈t,r∈rs)→dW rs t=rs
 |[],_,_=>rfl
 |
  r::t,rs,h=>by
  unfold dW
  rw[aA (h r (du ..))]
  exact tT t rs fun x hx=>h x (dT _ hx)
def SJ(se:SM)(rs:List Rd):Prop:=∀r,bw bC .bool r se=true↔r∈rs
theorem qa:∀(n:List Rd)(se:SM)(acc:List Rd)(s':SM)(a':List Rd),iK n se acc=some (s',a')→SJ se acc→a'=dW acc n∧SJ s' a'
 |
  [],se,acc,s',a',h,hs=>by
  cases h
  exact⟨rfl,hs⟩
 |
  r::n,se,acc,s',a',h,hs=>by
  unfold iK at h
  unfold dW
  split at h
  ·rename_i hm
   rw[aA ((hs r).1 hm)]
   exact qa n se acc s' a' h hs
  ·rename_i hm
   rw[aC fun hr=>hm ((hs r).2 hr)]
   split at h
   ·split at h
    ·refine qa n _ _ s' a' h fun x=>?_
     rw[j4,lj]
     by_cases e:x=r
     ·subst e
      rw[dp (kt:=bC) (vt:=.bool) rfl]
      exact⟨fun _=>Or.inr rfl,fun _=>rfl⟩
     ·rw[dj (kt:=bC) (vt:=.bool) rfl e,hs x]
      exact⟨Or.inl,fun h=>h.elim id fun h=>absurd h e⟩
    ·cases h
   ·cases h
def w0(s:cz):bT:=((s,([],())),([],()))
def zJ(s:cz)(u:Ru)(l:List In):Bool:=match mL u (w0 s) none 0 0 false none () l [] [] [] with
 |some r=>r.1
 |none=>false
def kY(s:cz)(u:Ru)(p:Int)(l:List In):In:=match mP u p l (w0 s) none 0 0 false none () [] [] [] with
 |some r=>r.2.2.2.2.2.2.2.2.2.2
 |none=>(0,(0,(0,([],()))))
def qb(u:Ru)(p:Int)(l:List In):Int:=
 if(nth aL u.2.2.1 (l.length:Int)).2.2.2.1.2.2.1= -1 then p else nth (.int .i64) (nth fL l (nth aL u.2.2.1 (l.length:Int)).2.2.2.1.2.2.1).2.2.2.1 (nth aL u.2.2.1 (l.length:Int)).2.2.2.1.2.2.2.1
def jA(look:Pl→Qy Rs)(ch:List In→Qy (Bool×List In))(a o:Int)(l:List In):Nat→Nat→Qy (Bool×List In)
 |0,_=>.ret (false,l)
 |n+1,c=>(look (a,(o,((c:Int),())))).bind fun x=>if x.2.2.2.1=true then(ch (l++[x.1])).bind fun y=>if y.1=true then .ret y else jA look ch a o l n (c+1) else jA look ch a o l n (c+1)
def nN(m:DM)(a:Int):Nat:=if bw (.int .i64) .bool a (bM m)=true then 1 else 4
def dw(look:Pl→Qy Rs)(s:cz)(m:DM)(u:Ru)(p:Int):Nat→List In→Qy (Bool×List In)
 |0,l=>.ret (zJ s u l,l)
 |n+1,l=>jA look (dw look s m u p n) (nth aL u.2.2.1 (l.length:Int)).2.2.1 (qb u p l) l (nN m (nth aL u.2.2.1 (l.length:Int)).2.2.1) 0
def zR:Rs:=((0,(0,(0,([],())))),(0,([],(false,()))))
def gP(ch:Ru→Qy (Bool×List In))(bd:Ru→List In→In)(R:List Ru)(a:Int):Nat→Nat→Qy Rs
 |0,_=>.ret zR
 |n+1,c=>if(nth bz R (c:Int)).2.1=a then(ch (nth bz R (c:Int))).bind fun y=>if y.1=true then .ret (bd (nth bz R (c:Int)) y.2,((c:Int),(y.2,(true,())))) else gP ch bd R a n (c+1) else gP ch bd R a n (c+1)
def iT(s:cz)(m:DM)(look:Pl→Qy Rs)(p:Pl):Qy Rs:=
 if bw (.int .i64) .bool p.1 (bM m)=true then gP (fun u=>dw look s m u p.2.1 u.2.2.1.length []) (fun u l=>kY s u p.2.1 l) s.2.2.2.1 p.1 s.2.2.2.1.length 0 else .ask p fun b x=>.ret (x,(0,([],(b,()))))
def zL(s:cz)(m:DM):Nat→Pl→Qy Rs
 |0,_=>.ret zR
 |n+1,p=>iT s m (zL s m n) p
theorem oS{k1 k2:Pl→Qy Rs}{ch1 ch2:List In→Qy (Bool×List In)}{a:Int}{l:List In}(h:∀y,k1 (a,y)=k2 (a,y))(hc:∀x,ch1 (l++[x])=ch2 (l++[x]))(o:Int):∀n c,jA k1 ch1 a o l n c=jA k2 ch2 a o l n c
 |0,_=>rfl
 |
  n+1,c=>by
  unfold jA
  rw[h,oS h hc o n]
  simp only[hc]
theorem nu{k1 k2:Pl→Qy Rs}{s:cz}{m:DM}{u:Ru}(h:∀v∈u.2.2.1,∀y,k1 (v.2.2.1,y)=k2 (v.2.2.1,y))(p:Int):∀n l,l.length+n=u.2.2.1.length→dw k1 s m u p n l=dw k2 s m u p n l
 |0,_,_=>rfl
 |n+1,l,hl=>oS (h _ (dv (t:=aL) (l:=u.2.2.1) (dD l.length) (by omega))) (fun x=>nu h p n (l++[x]) (by rw[dZ,cM];omega)) _ _ _
theorem oT{c1 c2:Ru→Qy (Bool×List In)}{bd:Ru→List In→In}{R:List Ru}{a:Int}(h:∀u∈R,u.2.1=a→c1 u=c2 u):∀n c,c+n≤R.length→gP c1 bd R a n c=gP c2 bd R a n c
 |0,_,_=>rfl
 |
  n+1,c,hc=>by
  unfold gP
  rw[oT h n (c+1) (by omega)]
  split
  ·rename_i hu
   rw[h _ (dv (t:=bz) (l:=R) (dD c) (by omega)) hu]
  ·rfl
theorem qY{k1 k2:Pl→Qy Rs}{s:cz}{m:DM}{p:Pl}(h:∀u∈s.2.2.2.1,u.2.1=p.1→∀v∈u.2.2.1,∀y,k1 (v.2.2.1,y)=k2 (v.2.2.1,y)):iT s m k1 p=iT s m k2 p:=by
 unfold iT
 rw[oT (fun u hu e=>nu (h u hu e) p.2.1 _ [] (dN _)) _ 0 (by omega)]
theorem oU{s:cz}{lo:Ze}(hr:∀u∈s.2.2.2.1,∀v∈u.2.2.1,lo.idxOf v.2.2.1<lo.idxOf u.2.1)(m:DM):∀n n' p,lo.idxOf p.1<n→lo.idxOf p.1<n'→zL s m n p=zL s m n' p
 |
  n+1,n'+1,p,h,h'=>qY fun u hu e v hv y=>by
  have:=hr u hu v hv
  rw[e] at this
  exact oU hr m n n' _ (show lo.idxOf v.2.2.1<n by omega) (show lo.idxOf v.2.2.1<n' by omega)
def LQ(s:cz)(m:DM)(lo:Ze)(p:Pl):Qy Rs:=zL s m (lo.idxOf p.1+1) p
theorem Dw{s:cz}{lo:Ze}(hr:∀u∈s.2.2.2.1,∀v∈u.2.2.1,lo.idxOf v.2.2.1<lo.idxOf u.2.1)(m:DM)(p:Pl):LQ s m lo p=iT s m (LQ s m lo) p:=by
 show iT s m (zL s m (lo.idxOf p.1)) p=_
 refine qY fun u hu e v hv y=>?_
 have:=hr u hu v hv
 rw[e] at this
 exact oU hr m _ _ _ this (Nat.lt_succ_self _)
structure MY(w:bT)(PS:Ze)(U:List Pl)(ix:Ix)(d k:Int)(O:Pl→An):Prop where
 wy:WY w PS U ix
 ra:∀p:Pl,p.2.1∈PS→f33 (w.1,(aboutL w.1.1 ix p,())) p.1 p.2.1 p.2.2.1 d k=some (O p)
structure MX(w:bT)(lo PS:Ze)(U:List Pl)(ix:Ix)(m:DM)(d k:Int)(O:Pl→An)(L:Pl→Qy Rs):Prop where
 wx:WX w lo PS U ix
 my:MY w PS U ix d k O
 fix:∀p,L p=iT w.1.1 m L p
variable{w:bT} {lo PS:Ze} {U:List Pl} {ix:Ix} {m:DM} {d k:Int} {O:Pl→An} {L:Pl→Qy Rs}
structure MI(s:cz)(PS:Ze)(U:List Pl)(O:Pl→An)(L:Pl→Qy Rs)(fo:FM)(se:SM)(rs:List Rd):Prop where
 fi:FI s PS U fo se rs
 vl:∀e∈fo,e.2=((L e.1).run O).1∧∀r∈((L e.1).run O).2,r∈rs
 si:SJ se rs
theorem MI.nil(s:cz)(PS:Ze)(U:List Pl)(O:Pl→An)(L:Pl→Qy Rs):MI s PS U O L [] [] []:=⟨FI.nil s PS U,fun e he=>(by cases he),fun r=>⟨fun h=>(by cases h),fun h=>(by cases h)⟩⟩
theorem MI.put{s:cz}{fo:FM}{se se':SM}{rs:List Rd}(h:MI s PS U O L fo se rs){p:Pl}(hf:FI s PS U (bB bx p ((L p).run O).1 fo) se' (dW rs ((L p).run O).2))(hs:SJ se' (dW rs ((L p).run O).2)):MI s PS U O L (bB bx p ((L p).run O).1 fo) se' (dW rs ((L p).run O).2) where
 fi:=hf
 vl e he:=by
  rcases eR (kt:=bx) he with rfl|he
  ·exact⟨rfl,fun r hr=>(me ..).2 (Or.inr hr)⟩
  ·exact⟨(h.vl e he).1,fun r hr=>(me ..).2 (Or.inl ((h.vl e he).2 r hr))⟩
 si:=hs
def LP(w:bT)(PS:Ze)(U:List Pl)(ix:Ix)(m:DM)(d k:Int)(O:Pl→An)(L:Pl→Qy Rs)(b:Bool)(z:Unit)(p:Pl)(rs:List Rd)(r:bT×Ix×Int×Int×Bool×DM×Unit×FM×SM×Rs×List Rd):Prop:=
 ∃fo se,r=(w,ix,d,k,b,m,z,fo,se,((L p).run O).1,dW rs ((L p).run O).2)∧MI w.1.1 PS U O L fo se (dW rs ((L p).run O).2)∧(((L p).run O).1.2.2.2.1=true→FV w.1.1 PS ((L p).run O).1.1 p.1)
theorem Lf(X:MY w PS U ix d k O)(q0:Q0)(q1:Q1)(p:Pl)(hf:L p=iT w.1.1 m L p)(b:Bool)(z:Unit){fo:FM}{se:SM}{rs:List Rd}(h:MI w.1.1 PS U O L fo se rs)(hU:p∈U)(hP:p.2.1∈PS)
 (hd:bw (.int .i64) .bool p.1 (bM m)=true→W (ua q0 q1 p w ix d k b m z fo se rs) (LP w PS U ix m d k O L b z p rs)):W (qm q0 q1 p w ix d k b m z fo se rs) (LP w PS U ix m d k O L b z p rs):=by
 have hB:=hB
 unfold qm
 cases hp:ck bx p fo with
 |
  true=>
  rw[aA rfl]
  obtain⟨i,hi⟩:=oK (kt:=bx) (vt:=cj) rfl hp
  have he:=lP hi
  obtain⟨v1,v2⟩:=h.vl _ he
  have v1:bw bx cj p fo=((L p).run O).1:=v1
  have hx:=h.fi.ok _ he
  rw[v1] at hx ⊢
  have e:=tT _ _ v2
  exact⟨_,rfl,fo,se,by rw[e],by rw[e];exact h,hx⟩
 |
  false=>
  rw[aC (by decide)]
  cases hder:bw (.int .i64) .bool p.1 (bM m) with
  |
   true=>
   rw[aA rfl]
   refine bN.2 (pY.2 ((hd hder).mono fun r hr=>?_))
   obtain⟨fo',se',rfl,h',hx⟩:=hr
   refine⟨_,rfl,?_⟩
   rw[ir]
   dsimp only
   have hl:=h'.fi.len
   have hl2:=X.wy.len
   have hg:fo'.length≤(bB bx p ((L p).run O).1 fo').length:=mset_ge (kt:=bx)
   have h1:=h'.fi.se
   have h2:=h'.fi.rs
   have e:=tT _ _ fun r hr=>(me ((L p).run O).2 rs r).2 (Or.inr hr)
   rw[aA (show fo'.length+1≤aE by omega)]
   refine⟨_,rfl,_,_,rfl,?_,hx⟩
   have h3:MI w.1.1 PS U O L (bB bx p ((L p).run O).1 fo') se' (dW (dW rs ((L p).run O).2) ((L p).run O).2):=h'.put (by rw[e];exact h'.fi.put hU hx (by omega) (by omega)) (by rw[e];exact h'.si)
   rw[e] at h3
   exact h3
  |
   false=>
   rw[aC (by decide)]
   obtain⟨M,y,x,n,se',rs',e1,e2,e3,hl,hr⟩:=lookR X.wy p d k b m z h.fi hp hU hP
   have e1':=about_u X.wy p d k b m z fo se rs
   rw[e1'] at e1
   have eL:aboutL w.1.1 ix p=M:=by
    have e:=kf e1
    simp only[gJ,true_and,and_true] at e
    exact e
   subst eL
   have eO:O p=(y,x,n):=kf ((X.ra p hP).symm.trans e2)
   have eq:(L p).run O=((x,(0,([],(y,())))),n):=by
    rw[hf]
    unfold iT
    rw[hder,aC (by decide)]
    unfold Qy.run
    rw[eO]
    unfold Qy.run
    rw[gI]
   have e4:qq n=some n:=rfl
   obtain⟨fo2,se2,x2,rs2,er,h',hx⟩:=hr
   cases er
   have hfr:iK n se rs=some (se',rs'):=by
    unfold jb at e3
    split at e3
    ·cases hq:iK n se rs with
     |none=>rw[hq] at e3;cases e3
     |some q=>rw[hq] at e3;cases e3;rfl
    ·cases e3
   obtain⟨s1,s2⟩:=qa n se rs se' rs' hfr h.si
   subst s1
   rw[e1',aJ]
   dsimp only
   rw[jx,jx,jx,jx,e2,aJ]
   dsimp only
   rw[e4,aJ,e3,aJ,aH]
   dsimp only
   rw[aA hl]
   refine⟨_,rfl,_,_,by rw[eq],?_,by rw[eq];exact hx⟩
   have h3:MI w.1.1 PS U O L (bB bx p ((L p).run O).1 fo) se' (dW rs ((L p).run O).2):=h.put (by rw[eq];exact h') (by rw[eq];exact s2)
   rw[eq] at h3 ⊢
   exact h3
theorem Gq{u:Ru}{l:List In}(hN:NB w.1.1)(hw:u.2.2.2.1.length≤aE)(hR:RK (cR w.1.1 u))(hL:LI w.1.1 PS u l)(hl:l.length=u.2.2.1.length)(ix:Ix)(d k:Int)(b:Bool)(m:DM)(z:Unit)(fo:FM)(se:SM)(rs:List Rd):
 mL u w ix d k b m z l fo se rs=some (zJ w.1.1 u l,w,ix,d,k,b,m,z,l,fo,se,rs):=by
 obtain⟨y,hy⟩:=hold_u hN hw hR hL hl
 have e:zJ w.1.1 u l=y:=by unfold zJ;rw[hy (w0 w.1.1) rfl none 0 0 false none () [] [] []]
 rw[e]
 exact hy w rfl ix d k b m z fo se rs
theorem Em{u:Ru}{l:List In}(hw:u.2.2.2.2.1.length≤aE)(hR:RK (cR w.1.1 u))(hL:LI w.1.1 PS u l)(hl:l.length=u.2.2.1.length)(hf:1≤(flds w.1.1 u.2.1).length)(hf2:(flds w.1.1 u.2.1).length≤1000)(p:Int)(hp:p∈PS)(h0:(0:Int)∈PS)(hc:∀t∈u.2.2.2.2.1,t.2.2.1.2.2.2.2.1∈PS):
 FV w.1.1 PS (kY w.1.1 u p l) u.2.1∧∀ix d k b m z fo se rs,mP u p l w ix d k b m z fo se rs=some (w,ix,d,k,b,m,z,fo,se,rs,kY w.1.1 u p l):=by
 obtain⟨x,hx,hy⟩:=build_u hw hR hL hl hf hf2 p hp h0 hc
 have e:kY w.1.1 u p l=x:=by unfold kY;rw[hy (w0 w.1.1) rfl none 0 0 false none () [] [] []]
 rw[e]
 exact⟨hx,hy w rfl⟩
def CQ(w:bT)(PS:Ze)(U:List Pl)(ix:Ix)(m:DM)(d k:Int)(O:Pl→An)(L:Pl→Qy Rs)(b:Bool)(z:Unit)(u:Ru)(p:Int)(l:List In)(y:(Bool×List In)×List Rd)(rs:List Rd)(r:Bool×Ru×Int×bT×Ix×Int×Int×Bool×DM×Unit×FM×SM×List In×List Rd):Prop:=
 ∃fo se,r=(y.1.1,u,p,w,ix,d,k,b,m,z,fo,se,y.1.2,dW rs y.2)∧MI w.1.1 PS U O L fo se (dW rs y.2)∧(y.1.1=false→y.1.2=l)∧(y.1.1=true→LI w.1.1 PS u y.1.2∧y.1.2.length=u.2.2.1.length)
theorem I4(X:MX w lo PS U ix m d k O L)(q0:Q0)(q1:Q1)(p:Pl)(b:Bool)(z:Unit){fo:FM}{se:SM}{rs:List Rd}(h:MI w.1.1 PS U O L fo se rs)(hP:p.2.1∈PS)(hm:bw (.int .i64) .bool p.1 (bM m)=true)
 (hq:∀u∈w.1.1.2.2.2.1,u.2.1=p.1→∀fo se rs,MI w.1.1 PS U O L fo se rs→W (q1 (u,p.2.1,[],w,ix,d,k,b,m,z,fo,se,rs,())) (CQ w PS U ix m d k O L b z u p.2.1 [] ((dw L w.1.1 m u p.2.1 u.2.2.1.length []).run O) rs)):
 W (ua q0 q1 p w ix d k b m z fo se rs) (LP w PS U ix m d k O L b z p rs):=by
 have hB:=hB
 have hr:=X.wx.cg.sw.rules
 let Z:Nat→Rs×List Rd:=fun c=>(gP (fun u=>dw L w.1.1 m u p.2.1 u.2.2.1.length []) (fun u l=>kY w.1.1 u p.2.1 l) w.1.1.2.2.2.1 p.1 (w.1.1.2.2.2.1.length -c) c).run O
 have eZ:(L p).run O=Z 0:=by rw[X.fix p];unfold iT;rw[aA hm];rfl
 unfold ua
 refine bN.2 (W.ct (B:=fun r=>(Z 0).1=zR∧∃fo' se',r=(w,ix,d,k,b,m,z,fo',se',0,0,0,0,false,dW rs (Z 0).2)∧MI w.1.1 PS U O L fo' se' (dW rs (Z 0).2)) (Q:=LP w PS U ix m d k O L b z p rs) ?_ (fun r hr=>?_) fun r hr=>hr)
 ·refine W.mono (As (L:=vV q0 q1) rfl (fun c(s:FM×SM×List Rd)(r:cQ _ _)=>CT (fun r=>(Z c).1=zR∧∃fo' se',r=(w,ix,d,k,b,m,z,fo',se',0,0,0,0,false,dW s.2.2 (Z c).2)∧MI w.1.1 PS U O L fo' se' (dW s.2.2 (Z c).2)) (fun r=>∃fo' se',r=(w,ix,d,k,b,m,z,fo',se',(Z c).1,dW s.2.2 (Z c).2)∧MI w.1.1 PS U O L fo' se' (dW s.2.2 (Z c).2)∧FV w.1.1 PS (Z c).1.1 p.1) r) w.1.1.2.2.2.1.length (fun c(s:FM×SM×List Rd)=>(w.1.1.2.2.2.1,(w.1.1.2.2.2.1.length:Int),(c:Int),w,ix,d,k,b,m,z,s.1,s.2.1,p,0,0,0,0,false,s.2.2)) (fun _ s=>MI w.1.1 PS U O L s.1 s.2.1 s.2.2) ?step ?stop _ 0 (fo,se,rs) (by omega) (by omega) h) fun r hr=> ?fin
  case fin=>
   refine CT.mono (fun _ h=>h) (fun r h=>?_) r hr
   obtain⟨fo',se',rfl,h',hx⟩:=h
   unfold LP
   rw[eZ]
   exact⟨fo',se',rfl,h',fun _=>hx⟩
  case step=>
   rintro rec c ⟨fo,se,rs⟩ hc hI kk
   dsimp only at hI ⊢
   have hw2:=ka c (by omega)
   have hc1:(c:Int)<(w.1.1.2.2.2.1.length:Int):=by omega
   have hmm:=dv (t:=bz) (l:=w.1.1.2.2.2.1) (dD c) hc1
   rw[cH hc1,ei c,aA hc1]
   have eq:Z c=(if(nth bz w.1.1.2.2.2.1 (c:Int)).2.1=p.1 then(dw L w.1.1 m (nth bz w.1.1.2.2.2.1 (c:Int)) p.2.1 (nth bz w.1.1.2.2.2.1 (c:Int)).2.2.1.length []).bind fun y=>if y.1=true then .ret (kY w.1.1 (nth bz w.1.1.2.2.2.1 (c:Int)) p.2.1 y.2,((c:Int),(y.2,(true,())))) else gP (fun u=>dw L w.1.1 m u p.2.1 u.2.2.1.length []) (fun u l=>kY w.1.1 u p.2.1 l) w.1.1.2.2.2.1 p.1 (w.1.1.2.2.2.1.length -(c+1)) (c+1) else gP (fun u=>dw L w.1.1 m u p.2.1 u.2.2.1.length []) (fun u l=>kY w.1.1 u p.2.1 l) w.1.1.2.2.2.1 p.1 (w.1.1.2.2.2.1.length -(c+1)) (c+1):Qy Rs).run O:=by
    show(gP _ _ _ _ _ _).run O=_
    rw[show w.1.1.2.2.2.1.length -c=(w.1.1.2.2.2.1.length -(c+1))+1 by omega]
    rfl
   rw[eq]
   generalize nth bz w.1.1.2.2.2.1 (c:Int)=u at hmm ⊢
   by_cases hu:u.2.1=p.1
   ·rw[aC (show¬(!decide (u.2.1=p.1))=true by simp[hu]),aA hu,Qy.run_bind]
    obtain⟨r,er,fo',se',rfl,h',y0,y1⟩:=hq u hmm hu fo se rs hI
    have ea:so q0 q1 u p.2.1 w ix d k b m z fo se rs=(if(!((dw L w.1.1 m u p.2.1 u.2.2.1.length []).run O).1.1)=true then(some (false,w,ix,d,k,b,m,z,fo',se',([]:List In),dW rs ((dw L w.1.1 m u p.2.1 u.2.2.1.length []).run O).2)) else(some (true,w,ix,d,k,b,m,z,fo',se',((dw L w.1.1 m u p.2.1 u.2.2.1.length []).run O).1.2,dW rs ((dw L w.1.1 m u p.2.1 u.2.2.1.length []).run O).2))):=by
     unfold so;rw[er];rfl
    rw[ea]
    generalize (dw L w.1.1 m u p.2.1 u.2.2.1.length []).run O=y at h' y0 y1 ⊢
    obtain⟨⟨y,l⟩,t⟩:=y
    dsimp only at h' y0 y1 ⊢
    cases y with
    |
     false=>
     rw[aA (show(!false)=true from rfl),aJ]
     dsimp only
     rw[aC (by decide),aC (by decide),hw2,gB]
     exact kk (fo',se',dW rs t) h'
    |
     true=>
     obtain⟨hLI,hlen⟩:=y1 rfl
     have hR:=X.wx.cg.tg.rules u hmm
     have hf:=X.wx.cg.tg.fields _ (dv (t:=bG) (l:=w.1.1.2.2.1) hR.h0 hR.h1)
     have hs:=(X.wx.cg.sw.rl u hmm).2.2
     obtain⟨hx,hbu⟩:=Em (w:=w) (by omega) hR hLI hlen hf (X.wx.fl _ hR.h0 hR.h1) p.2.1 hP X.wx.zero (X.wx.consts u hmm)
     rw[aC (show¬(!true)=true by decide),aJ]
     dsimp only
     rw[aA rfl,aA rfl,hbu ix d k b m z fo' se',aJ]
     unfold Qy.run
     rw[gI]
     exact⟨_,rfl,fo',se',rfl,h',hu▸hx⟩
   ·rw[aA (show(!decide (u.2.1=p.1))=true by simp[hu]),aC hu,hw2]
    exact kk (fo,se,rs) hI
  case stop=>
   rintro rec ⟨fo,se,rs⟩ hI
   dsimp only at hI ⊢
   rw[gu (by omega)]
   have e:Z w.1.1.2.2.2.1.length=(zR,[]):=by
    show(gP _ _ _ _ (w.1.1.2.2.2.1.length -w.1.1.2.2.2.1.length) _).run O=_
    rw[Nat.sub_self];rfl
   rw[e]
   exact⟨_,rfl,rfl,fo,se,rfl,hI⟩
 ·obtain⟨e0,fo',se',rfl,h'⟩:=hr
  unfold LP
  rw[eZ,e0]
  exact⟨_,rfl,fo',se',rfl,h',fun h=>(by cases h)⟩
variable{w:bT} {lo PS:Ze} {U:List Pl} {ix:Ix} {m:DM} {d k:Int} {O:Pl→An} {L:Pl→Qy Rs}
abbrev CH:Ru×Int×bT×Ix×Int×Int×Bool×DM×Unit×FM×SM×(List In)×(List Rd)→Option (Bool×Ru×Int×bT×Ix×Int×Int×Bool×DM×Unit×FM×SM×List In×List Rd):=fun x=>some (false,x.1,x.2.1,x.2.2.1,x.2.2.2.1,x.2.2.2.2.1,x.2.2.2.2.2.1,x.2.2.2.2.2.2.1,x.2.2.2.2.2.2.2.1,x.2.2.2.2.2.2.2.2.1,x.2.2.2.2.2.2.2.2.2.1,x.2.2.2.2.2.2.2.2.2.2.1,x.2.2.2.2.2.2.2.2.2.2.2.1,x.2.2.2.2.2.2.2.2.2.2.2.2)
theorem I5(q0:Q0)(q1:Q1)(u:Ru)(p:Int)(l:List In)(b:Bool)(z:Unit)(fo:FM)(se:SM)(rs:List Rd)(hlt:l.length<u.2.2.1.length)
 (ho:(nth aL u.2.2.1 (l.length:Int)).2.2.2.1.2.2.1= -1∨(0≤(nth aL u.2.2.1 (l.length:Int)).2.2.2.1.2.2.1∧(nth aL u.2.2.1 (l.length:Int)).2.2.2.1.2.2.1<(l.length:Int)∧0≤(nth aL u.2.2.1 (l.length:Int)).2.2.2.1.2.2.2.1∧(nth aL u.2.2.1 (l.length:Int)).2.2.2.1.2.2.2.1<((nth fL l (nth aL u.2.2.1 (l.length:Int)).2.2.2.1.2.2.1).2.2.2.1.length:Int))):
 mM q0 q1 u p l w ix d k b m z fo se rs=aG (U:=Ru×Int×bT×Ix×Int×Int×Bool×DM×Unit×FM×SM×(List In)×(List Rd)) (mh q0 q1 (Int.toNat ((nN m (nth aL u.2.2.1 (l.length:Int)).2.2.1:Nat):Int)+1) (qb u p l,((nN m (nth aL u.2.2.1 (l.length:Int)).2.2.1:Nat):Int),0,u,p,w,ix,d,k,b,m,z,fo,se,nth aL u.2.2.1 (l.length:Int),l,rs)) CH:=by
 unfold mM qb nN
 rw[aC (show¬decide ((l.length:Int)=(u.2.2.1.length:Int))=true by simp;omega),ei _,aA (show(l.length:Int)<(u.2.2.1.length:Int) by omega)]
 generalize nth aL u.2.2.1 (l.length:Int)=v at ho
 by_cases hv:v.2.2.2.1.2.2.1= -1
 ·rw[aC (show¬(!decide (v.2.2.2.1.2.2.1=(-1:Int)))=true by simp[hv]),aH,aA hv]
  dsimp only
  by_cases hm:bw (.int .i64) .bool v.2.2.1 (bM m)=true
  ·rw[aA hm,aA hm,aH];rfl
  ·rw[aC hm,aC hm,aH];rfl
 ·obtain⟨a1,a2,a3,a4⟩:=ho.resolve_left hv
  rw[aA (show(!decide (v.2.2.2.1.2.2.1=(-1:Int)))=true by simpa using hv),aA a1,aA a2,aA a3,aA a4,aH,aC hv]
  dsimp only
  by_cases hm:bw (.int .i64) .bool v.2.2.1 (bM m)=true
  ·rw[aA hm,aA hm,aH];rfl
  ·rw[aC hm,aC hm,aH];rfl
theorem I6(X:MX w lo PS U ix m d k O L)(q0:Q0)(q1:Q1)(u:Ru)(hu:u∈w.1.1.2.2.2.1)(p:Int)(l:List In)(b:Bool)(z:Unit){fo:FM}{se:SM}{rs:List Rd}(h:MI w.1.1 PS U O L fo se rs)(hP:p∈PS)(hL:LI w.1.1 PS u l)
 (hq0:∀y:Pl,y∈U→y.2.1∈PS→l.length<u.2.2.1.length→y.1=(nth aL u.2.2.1 (l.length:Int)).2.2.1→∀fo se rs,MI w.1.1 PS U O L fo se rs→W (q0 (y,w,ix,d,k,b,m,z,fo,se,rs,())) (LP w PS U ix m d k O L b z y rs))
 (hq1:∀l',LI w.1.1 PS u l'→l'.length=l.length+1→∀fo se rs,MI w.1.1 PS U O L fo se rs→W (q1 (u,p,l',w,ix,d,k,b,m,z,fo,se,rs,())) (CQ w PS U ix m d k O L b z u p l' ((dw L w.1.1 m u p (u.2.2.1.length -l'.length) l').run O) rs)):
 W (mM q0 q1 u p l w ix d k b m z fo se rs) (CQ w PS U ix m d k O L b z u p l ((dw L w.1.1 m u p (u.2.2.1.length -l.length) l).run O) rs):=by
 have hB:=hB
 have hR:RK (cR w.1.1 u):=X.wx.cg.tg.rules u hu
 by_cases hl:l.length=u.2.2.1.length
 ·have hdl:decide ((l.length:Int)=(u.2.2.1.length:Int))=true:=cu (by omega)
  rw[show u.2.2.1.length -l.length=0 by omega]
  refine⟨(zJ w.1.1 u l,u,p,w,ix,d,k,b,m,z,fo,se,l,rs),?_,fo,se,rfl,h,fun _=>rfl,fun _=>⟨hL,hl⟩⟩
  unfold mM
  rw[aA hdl,Gq X.wx.cg.sw.nb (X.wx.cg.sw.rl u hu).2.1 hR hL hl];rfl
 ·have hll:=hL.len
  have hlt:l.length<u.2.2.1.length:=by omega
  have hn3:u.2.2.1.length≤3:=hR.n3
  have hF:FO (cR w.1.1 u) l.length:=hR.fo l.length hlt
  have hs0:0≤(nth aL u.2.2.1 (l.length:Int)).2.2.1:=hF.s0
  have hs1:(nth aL u.2.2.1 (l.length:Int)).2.2.1<(w.1.1.2.2.1.length:Int):=hF.s1
  have hpush:∀x:In,FV w.1.1 PS x (nth aL u.2.2.1 (l.length:Int)).2.2.1→LI w.1.1 PS u (l++[x]):=fun x hx=>hL.push hlt hx
  have ho:qb u p l∈PS∧((nth aL u.2.2.1 (l.length:Int)).2.2.2.1.2.2.1= -1∨(0≤(nth aL u.2.2.1 (l.length:Int)).2.2.2.1.2.2.1∧(nth aL u.2.2.1 (l.length:Int)).2.2.2.1.2.2.1<(l.length:Int)∧0≤(nth aL u.2.2.1 (l.length:Int)).2.2.2.1.2.2.2.1∧(nth aL u.2.2.1 (l.length:Int)).2.2.2.1.2.2.2.1<((nth fL l (nth aL u.2.2.1 (l.length:Int)).2.2.2.1.2.2.1).2.2.2.1.length:Int))):=by
   unfold qb
   by_cases hvar:(nth aL u.2.2.1 (l.length:Int)).2.2.2.1.2.2.1= -1
   ·rw[aA hvar];exact⟨hP,Or.inl hvar⟩
   ·rcases hF.of with h1|h1
    ·exact absurd h1 hvar
    ·obtain⟨a1,a2,a3,a4,a5⟩:=values_at hL (kg _) h1
     rw[aC hvar]
     exact⟨a5,Or.inr ⟨a1,a2,a3,a4⟩⟩
  rw[I5 q0 q1 u p l b z fo se rs hlt ho.2]
  obtain⟨ho,_⟩:=ho
  rw[show u.2.2.1.length -l.length=(u.2.2.1.length -(l.length+1))+1 by omega]
  unfold dw
  have hn4:nN m (nth aL u.2.2.1 (l.length:Int)).2.2.1≤4:=by unfold nN;split<;>omega
  have hch:∀x:In,LI w.1.1 PS u (l++[x])→∀fo se rs,MI w.1.1 PS U O L fo se rs→W (q1 (u,p,l++[x],w,ix,d,k,b,m,z,fo,se,rs,())) (CQ w PS U ix m d k O L b z u p (l++[x]) ((dw L w.1.1 m u p (u.2.2.1.length -(l.length+1)) (l++[x])).run O) rs):=fun x hx fo se rs hI=>by
   have:=hq1 (l++[x]) hx (by rw[dZ,cM]) fo se rs hI
   rw[dZ,cM] at this
   exact this
  generalize dw L w.1.1 m u p (u.2.2.1.length -(l.length+1))=ch at hch ⊢
  generalize nN m (nth aL u.2.2.1 (l.length:Int)).2.2.1=n at hn4 ⊢
  generalize qb u p l=o at ho ⊢
  generalize nth aL u.2.2.1 (l.length:Int)=v at hs0 hs1 hpush hq0 ⊢
  let Y:Nat→(Bool×List In)×List Rd:=fun c=>(jA L ch v.2.2.1 o l (n -c) c).run O
  show W _ (CQ w PS U ix m d k O L b z u p l (Y 0) rs)
  refine bN.2 (W.ct (W.mono (As (L:=mh q0 q1) rfl (fun c(s:FM×SM×List Rd)(r:cQ _ _)=>CT (fun r=>(Y c).1=(false,l)∧∃fo' se',r=(u,p,w,ix,d,k,b,m,z,fo',se',l,dW s.2.2 (Y c).2)∧MI w.1.1 PS U O L fo' se' (dW s.2.2 (Y c).2)) (fun r=>(Y c).1.1=true∧∃fo' se',r=(true,u,p,w,ix,d,k,b,m,z,fo',se',(Y c).1.2,dW s.2.2 (Y c).2)∧MI w.1.1 PS U O L fo' se' (dW s.2.2 (Y c).2)∧LI w.1.1 PS u (Y c).1.2∧(Y c).1.2.length=u.2.2.1.length) r) n (fun c(s:FM×SM×List Rd)=>(o,(n:Int),(c:Int),u,p,w,ix,d,k,b,m,z,s.1,s.2.1,v,l,s.2.2)) (fun _ s=>MI w.1.1 PS U O L s.1 s.2.1 s.2.2) ?step ?stop (Int.toNat (n:Int)+1) 0 (fo,se,rs) (by omega) (by omega) h) fun r hr=>hr) (fun r hr=>?_) fun r hr=>?_)
  case step=>
   rintro rec c ⟨fo,se,rs⟩ hc hI kk
   dsimp only at hI ⊢
   have hw2:=ka c (by omega)
   have hcn:decide ((c:Int)<(n:Int))=true:=cu (by omega)
   have hl48:∀x:In,(l.length+List.length [x])*48≤aE:=fun x=>by rw[cM];omega
   have eY:Y c=((L (v.2.2.1,(o,((c:Int),())))).bind fun x=>if x.2.2.2.1=true then(ch (l++[x.1])).bind fun y=>if y.1=true then .ret y else jA L ch v.2.2.1 o l (n -(c+1)) (c+1) else jA L ch v.2.2.1 o l (n -(c+1)) (c+1):Qy (Bool×List In)).run O:=by
    show(jA _ _ _ _ _ _ _).run O=_
    rw[show n -c=(n -(c+1))+1 by omega]
    rfl
   rw[eY,Qy.run_bind,aA hcn]
   obtain⟨r,er,fo',se',rfl,h',hx⟩:=hq0 (v.2.2.1,(o,((c:Int),()))) (X.wx.pl _ _ _ hs0 hs1 ho (dD c) (by omega)) ho hlt rfl fo se rs hI
   rw[er,aJ]
   dsimp only at h' hx ⊢
   generalize (L (v.2.2.1,(o,((c:Int),())))).run O=x at h' hx ⊢
   obtain⟨x,t⟩:=x
   dsimp only at h' hx ⊢
   cases hk:x.2.2.2.1 with
   |
    false=>
    rw[aC (by decide),aC (by decide),hw2,gB]
    exact kk (fo',se',dW rs t) h'
   |
    true=>
    rw[aA rfl,aA (hl48 x.1),aA rfl,Qy.run_bind]
    obtain⟨r,er2,fo2,se2,rfl,h2,y0,y1⟩:=hch x.1 (hpush x.1 (hx hk)) fo' se' (dW rs t) h'
    rw[er2,aJ]
    generalize (ch (l++[x.1])).run O=y at h2 y0 y1 ⊢
    obtain⟨⟨y,l2⟩,t2⟩:=y
    dsimp only at h2 y0 y1 ⊢
    cases y with
    |
     true=>
     rw[aA rfl,aA rfl]
     unfold Qy.run
     rw[gI]
     rw[gB]
     exact⟨_,rfl,rfl,fo2,se2,rfl,h2,y1 rfl⟩
    |
     false=>
     have e:=y0 rfl
     subst e
     have e1:aZ (((l++[x.1]).length:Int) -(1:Int))=(l.length:Int):=by
      rw[dZ,cM]
      rw[fA (by omega) (by omega)]
      omega
     have e3:(l.length:Int)≤((l++[x.1]).length:Int):=by rw[dZ,cM];omega
     have ff:¬false=true:=by decide
     rw[aC ff,e1,ei _,aA e3,dO,Nat.sub_zero,List.take_left,hw2,aC ff,gB,gB]
     exact kk (fo2,se2,dW (dW rs t) t2) h2
  case stop=>
   rintro rec ⟨fo,se,rs⟩ hI
   dsimp only at hI ⊢
   rw[gu (by omega)]
   have e:Y n=((false,l),[]):=by
    show(jA _ _ _ _ _ (n -n) _).run O=_
    rw[Nat.sub_self];rfl
   rw[e]
   exact⟨_,rfl,rfl,fo,se,rfl,hI⟩
  ·obtain⟨e0,fo',se',rfl,h'⟩:=hr
   exact⟨_,rfl,fo',se',by rw[e0],h',fun _=>by rw[e0],fun h=>by rw[e0] at h;cases h⟩
  ·obtain⟨e0,fo',se',rfl,h',h2⟩:=hr
   exact⟨fo',se',by rw[e0],h',(fun h=>by rw[e0] at h;cases h),fun _=>h2⟩
theorem Po(X:MX w lo PS U ix m d k O L)(b:Bool)(z:Unit):∀n:Nat,
 (∀(p:Pl) fo se rs,MI w.1.1 PS U O L fo se rs→p∈U→p.2.1∈PS→5*(lo.idxOf p.1+1)≤n→W ((gS n).1 (p,w,ix,d,k,b,m,z,fo,se,rs,())) (LP w PS U ix m d k O L b z p rs))∧
 (∀u∈w.1.1.2.2.2.1,∀(q:Int) l fo se rs,MI w.1.1 PS U O L fo se rs→q∈PS→LI w.1.1 PS u l→5*lo.idxOf u.2.1+(u.2.2.1.length -l.length)+1≤n→W ((gS n).2 (u,q,l,w,ix,d,k,b,m,z,fo,se,rs,())) (CQ w PS U ix m d k O L b z u q l ((dw L w.1.1 m u q (u.2.2.1.length -l.length) l).run O) rs)):=by
 intro n
 induction n with
 |zero=>exact⟨fun p fo se rs _ _ _ h=>by omega,fun u _ q l fo se rs _ _ _ h=>by omega⟩
 |
  succ n ih=>
  refine⟨fun p fo se rs h hU hP hn=>?_,fun u hu q l fo se rs h hP hL hn=>?_⟩
  ·exact Lf X.my (gS n).1 (gS n).2 p (X.fix p) b z h hU hP fun hm=>I4 X _ _ p b z h hP hm fun u hu hup fo se rs h=>ih.2 u hu p.2.1 [] fo se rs h hP (LI.nil _ _ _) (by
    have hn3:u.2.2.1.length≤3:=(X.wx.cg.tg.rules u hu).n3
    rw[hup,jK]
    omega)
  ·exact I6 X (gS n).1 (gS n).2 u hu q l b z h hP hL (fun y hy hyP hlt hy1 fo se rs h=>ih.1 y fo se rs h hy hyP (by
    have hpre:=X.wx.cg.rk.pre u hu _ (dv (t:=aL) (l:=u.2.2.1) (dD l.length) (show(l.length:Int)<(u.2.2.1.length:Int) by omega))
    rw[←hy1] at hpre
    omega)) fun l' hL' hl' fo se rs h=>ih.2 u hu q l' fo se rs h hP hL' (by
    have:=hL'.len
    omega)
theorem Gr(X:MX w lo PS U ix m d k O L)(b:Bool)(z:Unit)(p:Pl){fo:FM}{se:SM}{rs:List Rd}(h:MI w.1.1 PS U O L fo se rs)(hU:p∈U)(hP:p.2.1∈PS):W (jY p w ix d k b m z fo se rs) (LP w PS U ix m d k O L b z p rs):=by
 have hl:=X.wx.cg.rk.len
 have hm:=X.wx.cg.tg.many
 have hi:lo.idxOf p.1≤lo.length:=List.idxOf_le_length
 exact(Po X b z gD).1 p fo se rs h hU hP (by show _≤18446744073709551616;omega)
theorem Gs(X:MY w PS U ix d k O)(b:Bool)(z:Unit)(p:Pl)(hf:L p=iT w.1.1 m L p)(hm:¬bw (.int .i64) .bool p.1 (bM m)=true){fo:FM}{se:SM}{rs:List Rd}(h:MI w.1.1 PS U O L fo se rs)(hU:p∈U)(hP:p.2.1∈PS):W (jY p w ix d k b m z fo se rs) (LP w PS U ix m d k O L b z p rs):=by
 have key:∀n,W ((gS (n+1)).1 (p,w,ix,d,k,b,m,z,fo,se,rs,())) (LP w PS U ix m d k O L b z p rs):=fun n=>Lf X (gS n).1 (gS n).2 p hf b z h hU hP fun h=>absurd h hm
 exact key 18446744073709551615
theorem Gt(X:MY w PS U ix d k O)(b:Bool)(z:Unit)(p:Pl){fo:FM}{se:SM}{rs:List Rd}(h:MI w.1.1 PS U O L fo se rs)(hU:p∈U)(hP:p.2.1∈PS)(ho:W (jY p w ix d k b m z fo se rs) (LP w PS U ix m d k O L b z p rs)):W (eB p w ix d k b m z fo se rs) (LP w PS U ix m d k O L b z p rs):=by
 suffices hW:∃r,eB p w ix d k b m z fo se rs=some r by
  obtain⟨r,er⟩:=hW
  obtain⟨r',er',hr⟩:=ho
  rw[GB er] at er'
  cases er'
  exact⟨r,er,hr⟩
 have ho:=ho.imp fun r h=>h.1
 unfold eB
 cases hp:ck bx p fo with
 |true=>rw[aA rfl];exact ho
 |
  false=>
  rw[aC (by decide)]
  split
  ·exact ho
  ·obtain⟨M,y,x,n,se',rs',e1,e2,e3,hl,_⟩:=lookR X.wy p d k b m z h.fi hp hU hP
   have e4:qq n=some n:=rfl
   rw[e1,aJ]
   dsimp only
   rw[e2,aJ]
   dsimp only
   rw[e4,aJ,e3,aJ]
   dsimp only
   rw[aA hl]
   exact⟨_,rfl⟩
abbrev Ky:=gX
abbrev Fa:=eQ
abbrev gF(a p i:Int)(c:Nat):Ky:=(a,(p,(aZ ((aZ ((16:Int)*i))+(c:Int)),())))
abbrev jU(a p i d:Int)(c:Nat):Rd:=(gF a p i c,(d,(aZ (d+(1:Int)),())))
def sg(d:Int)(r:Rd):Rd:=(r.1,(d,(aZ (d+(1:Int)),())))
def Bz(s:cz)(a:Int):Bool:=(f49 s a).getD false
def uP(p i:Int):Bool:=(f50 p i).getD false
def Gu(s:cz)(a c x:Int):Bool:=(f54 s a c x).getD false
def zI:In:=(0,(0,(0,([],()))))
def lJ(s:cz)(V:Ky→Int×Bool)(a p i d:Int):Nat→Nat→List Int→List Rd→An
 |0,_,t,rs=>(true,(a,(p,(i,(t,())))),rs)
 |n+1,c,t,rs=>if((V (gF a p i c)).2&&Gu s a c (V (gF a p i c)).1)=true then lJ s V a p i d n (c+1) (t++[(V (gF a p i c)).1]) (rs++[jU a p i d c]) else(false,zI,rs++[jU a p i d c])
def nO(s:cz)(V:Ky→Int×Bool)(a p i d:Int):An:=
 if Bz s a=true∧uP p i=true∧0≤d∧d<1024 then lJ s V a p i d ((flds s a).length -1) 1 [p] [] else(false,zI,[])
theorem tU{s:cz}{V:Ky→Int×Bool}{a p i d:Int}:∀(n c:Nat)(t:Ze)(rs:List Rd),(∀r∈rs,r∈(lJ s V a p i d n c t rs).2.2)∧∀r∈(lJ s V a p i d n c t rs).2.2,r∈rs∨∃e,c≤e∧e<c+n∧r=jU a p i d e
 |0,_,_,_=>⟨fun _ h=>h,fun _ h=>Or.inl h⟩
 |
  n+1,c,t,rs=>by
  unfold lJ
  have hl:∀r∈rs++[jU a p i d c],r∈rs∨∃e,c≤e∧e<c+(n+1)∧r=jU a p i d e:=fun r hr=>(List.mem_append.1 hr).imp id fun h=>⟨c,cL _,by omega,List.mem_singleton.1 h⟩
  split
  ·obtain⟨h1,h2⟩:=tU (s:=s) (V:=V) (a:=a) (p:=p) (i:=i) (d:=d) n (c+1) (t++[(V (gF a p i c)).1]) (rs++[jU a p i d c])
   exact⟨fun r hr=>h1 r (iN _ hr),fun r hr=>(h2 r hr).elim (hl r) fun⟨e,e1,e2,e3⟩=>Or.inr ⟨e,by omega,by omega,e3⟩⟩
  ·exact⟨fun r hr=>iN _ hr,hl⟩
theorem zM{s:cz}{V V':Ky→Int×Bool}{a p i d d':Int}:∀(n c:Nat)(t:Ze)(rs:List Rd),(∀r∈(lJ s V a p i d n c t rs).2.2,V' r.1=V r.1)→lJ s V' a p i d' n c t (rs.map (sg d'))=((lJ s V a p i d n c t rs).1,(lJ s V a p i d n c t rs).2.1,(lJ s V a p i d n c t rs).2.2.map (sg d'))
 |0,_,_,_,_=>rfl
 |
  n+1,c,t,rs,h=>by
  have hm:jU a p i d c∈(lJ s V a p i d (n+1) c t rs).2.2:=by
   unfold lJ
   split
   ·exact(tU n (c+1) _ _).1 _ (mV _ (List.mem_singleton.2 rfl))
   ·exact mV _ (List.mem_singleton.2 rfl)
  have e:V' (gF a p i c)=V (gF a p i c):=h _ hm
  have em:rs.map (sg d')++[jU a p i d' c]=(rs++[jU a p i d c]).map (sg d'):=by rw[qB];rfl
  unfold lJ at h ⊢
  rw[e,em]
  split
  ·rename_i hc
   rw[aA hc] at h
   exact zM n (c+1) _ _ h
  ·rfl
theorem zN{s:cz}{V:Ky→Int×Bool}{a p i d:Int}{r:Rd}(h:r∈(nO s V a p i d).2.2):(∃c,c<(flds s a).length∧r=jU a p i d c)∧Bz s a=true∧uP p i=true∧0≤d∧d<1024:=by
 unfold nO at h
 split at h
 ·rename_i hc
  refine⟨?_,hc⟩
  rcases(tU _ _ _ _).2 r h with h|⟨e,e1,e2,e3⟩
  ·cases h
  ·exact⟨e,by omega,e3⟩
 ·cases h
theorem oV{s:cz}{V V':Ky→Int×Bool}{a p i d d':Int}(hd:0≤d∧d<1024↔0≤d'∧d'<1024)(h:∀r∈(nO s V a p i d).2.2,V' r.1=V r.1):nO s V' a p i d'=((nO s V a p i d).1,(nO s V a p i d).2.1,(nO s V a p i d).2.2.map (sg d')):=by
 unfold nO at h ⊢
 by_cases hc:Bz s a=true∧uP p i=true∧0≤d∧d<1024
 ·rw[aA hc] at h ⊢
  rw[aA ⟨hc.1,hc.2.1,hd.1 hc.2.2⟩]
  exact zM _ _ _ [] h
 ·rw[aC hc,aC fun hc'=>hc ⟨hc'.1,hc'.2.1,hd.2 hc'.2.2⟩]
  rfl
theorem zO{s:cz}{V:Ky→Int×Bool}{a p i d:Int}:(nO s V a p i d).2.2.map (sg d)=(nO s V a p i d).2.2:=by
 have h:=oV (s:=s) (V:=V) (V':=V) (a:=a) (p:=p) (i:=i) Iff.rfl (d:=d) fun _ _=>rfl
 exact(congrArg (fun x:An=>x.2.2) h).symm
theorem En(v:bT)(s:cz)(hN:NB s)(hl:v.2.1.length≤aE)(c:Nat)(a p i d k:Int)(rs:List Rd)(hr:(rs.length+1)*40≤aE):
 qf (c:Int) a p i d v k s rs=some ((iU v.2.1 (gF a p i c) d k).1,((iU v.2.1 (gF a p i c) d k).2&&Gu s a c (iU v.2.1 (gF a p i c) d k).1),a,p,i,d,v,k,s,rs++[jU a p i d c]):=by
 have e:Ab v.2.1 (a,(p,(aZ ((aZ ((16:Int)*i))+(c:Int)),()))) d k=some (iU v.2.1 (gF a p i c) d k):=aA hl
 unfold qf f52
 rw[aJ,aA (by rw[cM];exact hr),e,aJ]
 generalize iU v.2.1 (gF a p i c) d k=r
 obtain⟨x,b⟩:=r
 dsimp only
 cases b with
 |false=>rfl
 |
  true=>
  obtain⟨q,hq⟩:=value_ans s hN a (c:Int) x
  unfold Gu
  rw[aA rfl,hq]
  rfl
theorem xy(p i:Int):f50 p i=some (uP p i)∧(uP p i=true→0≤i∧i<4):=by
 have hs:∃z,f50 p i=some z∧(z=true→0≤i∧i<4):=by
  unfold f50
  have no:∀y:Zl,y=some false→∃z,y=some z∧(z=true→0≤i∧i<4):=fun y hy=>⟨false,hy,fun h=>(by cases h)⟩
  by_cases i0:0≤i
  ·by_cases i1:i<4
   ·have yes:∀y:Zl,(∃z,y=some z)→∃z,y=some z∧(z=true→0≤i∧i<4):=fun y ⟨z,hz⟩=>⟨z,hz,fun _=>⟨i0,i1⟩⟩
    apply yes
    refine bindT ?_ fun v=>⟨v,rfl⟩
    repeat' (first|exact⟨_,rfl⟩|split)
   ·rw[cu i0,dz i1]
    apply no
    split
    ·split<;>rfl
    ·rfl
  ·rw[dz i0]
   apply no
   split
   ·split<;>rfl
   ·rfl
 obtain⟨z,e,h⟩:=hs
 have e2:uP p i=z:=by unfold uP;rw[e];rfl
 rw[e2]
 exact⟨e,h⟩
theorem Dx(v:bT)(hN:NB v.1.1)(hR:v.1.1.2.2.2.1.length≤aE)(hF:∀a,0≤a→a<(v.1.1.2.2.1.length:Int)→(flds v.1.1 a).length≤1000)(hl:v.2.1.length≤aE)(a p i d k:Int):
 f33 v a p i d k=some (nO v.1.1 (fun q=>iU v.2.1 q d k) a p i d):=by
 have hB:=hB
 suffices hW:W (f33 v a p i d k) fun r=>r=nO v.1.1 (fun q=>iU v.2.1 q d k) a p i d by
  obtain⟨r,e,rfl⟩:=hW
  exact e
 obtain⟨b,e,hb⟩:=recorded_eq v.1.1 hR a
 have eb:Bz v.1.1 a=b:=by unfold Bz;rw[e];rfl
 obtain⟨hz,_⟩:=xy p i
 unfold f33 nO
 rw[e,aJ,eb]
 cases b with
 |false=>exact⟨_,rfl,(aC fun h=>(by cases h.1)).symm⟩
 |
  true=>
  obtain⟨a0,a1,a2⟩:=hb rfl
  rw[aC (by decide),hz,aJ]
  cases uP p i with
  |false=>exact⟨_,rfl,(aC fun h=>(by cases h.2.1)).symm⟩
  |
   true=>
   rw[aC (by decide)]
   by_cases d0:d<0
   ·rw[cH d0];exact⟨_,rfl,(aC fun h=>by omega).symm⟩
   ·rw[aC (show¬decide (d<(0:Int))=true by simpa using d0)]
    by_cases d1:(1024:Int)≤d
    ·rw[cu d1];exact⟨_,rfl,(aC fun h=>by omega).symm⟩
    ·rw[dz d1,aJ,aC (by decide),aH,aA ⟨rfl,rfl,by omega,by omega⟩]
     dsimp only
     have hFa:=hF a a0 a1
     have e:(nth bG v.1.1.2.2.1 a).2.2.2.2.1=flds v.1.1 a:=rfl
     let Y:Nat→List Int→List Rd→An:=fun c t s=>lJ v.1.1 (fun q=>iU v.2.1 q d k) a p i d ((flds v.1.1 a).length -c) c t s
     refine bN.2 (W.ct (W.mono (As (L:=BC) rfl (fun c(u:List Int×List Rd)(r:cQ _ _)=>CT (fun r=>∃t s,r=(a,p,i,0,0,0,t,s)∧Y c u.1 u.2=(true,(a,(p,(i,(t,())))),s)) (fun r=>r=Y c u.1 u.2) r) (flds v.1.1 a).length (fun c(u:List Int×List Rd)=>((c:Int),v,a,p,i,d,k,0,0,0,v.1.1,u.1,u.2)) (fun c u=>u.1.length≤c∧u.2.length≤c) ?step ?stop gD 1 ([p],[]) (by show _<18446744073709551616;omega) (by omega) ⟨cL _,fg _⟩) fun r hr=>hr) (fun r hr=>?_) fun r hr=>hr)
     case step=>
      rintro rec c ⟨t,s⟩ hc ⟨ht,hs⟩ kk
      dsimp only at ht hs ⊢
      have hw2:=ka c (by omega)
      rw[e,aA a0,aA a1,cH (by omega),En v v.1.1 hN hl c a p i d k s (by omega),aJ]
      have eY:Y c t s=if((iU v.2.1 (gF a p i c) d k).2&&Gu v.1.1 a c (iU v.2.1 (gF a p i c) d k).1)=true then Y (c+1) (t++[(iU v.2.1 (gF a p i c) d k).1]) (s++[jU a p i d c]) else(false,zI,s++[jU a p i d c]):=by
       show lJ _ _ _ _ _ _ _ _ _ _=_
       rw[show(flds v.1.1 a).length -c=((flds v.1.1 a).length -(c+1))+1 by omega]
       rfl
      rw[eY]
      dsimp only
      cases(iU v.2.1 (gF a p i c) d k).2&&Gu v.1.1 a c (iU v.2.1 (gF a p i c) d k).1 with
      |false=>exact⟨_,rfl,rfl⟩
      |
       true=>
       rw[aC (by decide),aA rfl,aA (show(t.length+List.length [_])*8≤aE by rw[cM];omega),hw2]
       exact kk (_,_) ⟨by rw[dZ,cM];omega,by rw[dZ,cM];omega⟩
     case stop=>
      rintro rec ⟨t,s⟩ _
      dsimp only
      rw[e,aA a0,aA a1,gu (by omega)]
      refine⟨_,rfl,t,s,rfl,?_⟩
      show lJ _ _ _ _ _ _ (_ -_) _ _ _=_
      rw[Nat.sub_self]
      rfl
     ·obtain⟨t,s,rfl,h⟩:=hr
      exact⟨_,rfl,h.symm⟩
theorem zP{β:Type}{g:Nat→List β}:∀n:Nat,(∀c<n,g c= [])→(List.range n).flatMap g= []
 |0,_=>rfl
 |
  n+1,h=>by
  rw[List.range_succ,List.flatMap_append,zP n fun c hc=>h c (by omega),List.flatMap_cons,List.flatMap_nil,h n (by omega)]
  rfl
theorem zQ{β:Type}{g:Nat→List β}{c:Nat}:∀n:Nat,c<n→(∀x<n,x≠c→g x= [])→(List.range n).flatMap g=g c
 |0,h,_=>by omega
 |
  n+1,h,hx=>by
  rw[List.range_succ,List.flatMap_append,List.flatMap_cons,List.flatMap_nil,gI]
  by_cases e:c=n
  ·subst e
   rw[zP _ fun x hx'=>hx x (by omega) (by omega),mY]
  ·rw[zQ n (by omega) fun x hx'=>hx x (by omega),hx n (by omega) (by omega),gI]
def qc(s:cz)(l:List Fa)(p:Pl):List Fa:=if 0≤p.1∧p.1<(s.2.2.1.length:Int) then(List.range (flds s p.1).length).flatMap fun(c:Nat)=>keyF (gF p.1 p.2.1 p.2.2.1 c) l else[]
theorem Eo(s:cz)(l:List Fa)(ix:List (Ky×List Fa))(h:∀key,bw bx (.slice 64 aO) key ix=keyF key l)(p:Pl):aboutL s (some ix) p=qc s l p:=by
 have e:(fun(c:Nat)=>bw bx (.slice 64 aO) (p.1,(p.2.1,(aZ ((aZ ((16:Int)*p.2.2.1))+(c:Int)),()))) (bM (some ix)))=fun(c:Nat)=>keyF (gF p.1 p.2.1 p.2.2.1 c) l:=funext fun c=>h _
 unfold aboutL qc
 rw[e]
theorem Gv{a p i:Int}(i0:0≤i)(i1:i<4){c e:Nat}(hc:c≤1000)(he:e≤1000)(h:gF a p i c=gF a p i e):c=e:=by
 have h1:aZ ((aZ ((16:Int)*i))+(c:Int))=aZ ((aZ ((16:Int)*i))+(e:Int)):=congrArg (fun k:Ky=>k.2.2.1) h
 rw[fA (x:=(16:Int)*i) (by omega) (by omega),fA (by omega) (by omega),fA (by omega) (by omega)] at h1
 omega
theorem Gw(s:cz)(l:List Fa){a p i:Int}(a0:0≤a)(a1:a<(s.2.2.1.length:Int))(hF:(flds s a).length≤1000)(i0:0≤i)(i1:i<4){c:Nat}(hc:c<(flds s a).length)(d k:Int):
 iU (qc s l (a,(p,(i,())))) (gF a p i c) d k=iU l (gF a p i c) d k:=by
 have e:(qc s l (a,(p,(i,())))).filter (dg (gF a p i c) k)=l.filter (dg (gF a p i c) k):=by
  have e1:qc s l (a,(p,(i,())))=(List.range (flds s a).length).flatMap fun(c:Nat)=>keyF (gF a p i c) l:=aA ⟨a0,a1⟩
  rw[e1,List.filter_flatMap]
  rw[zQ (c:=c) _ hc fun x hx hne=>?_]
  ·unfold keyF
   rw[List.filter_filter]
   refine List.filter_congr fun x _=>?_
   unfold dg
   cases aY bx x.1 (gF a p i c)<;>simp
  ·unfold keyF
   rw[List.filter_filter]
   refine List.filter_eq_nil_iff.2 fun y _=>?_
   intro h
   have h:=Bool.and_eq_true_iff.1 h
   have h1:=(Bool.and_eq_true_iff.1 h.1).1
   have q1:=(gC bx y.1 (gF a p i c)).1 h1
   have q2:=(gC bx y.1 (gF a p i x)).1 h.2
   exact hne (Gv i0 i1 (by omega) (by omega) (q2.symm.trans q1))
 unfold iU gR
 rw[e]
def Oa(w:bT)(d k:Int)(p:Pl):An:=nO w.1.1 (fun q=>iU w.2.1 q d k) p.1 p.2.1 p.2.2.1 d
theorem Yr{w:bT}{PS:Ze}{U:List Pl}{ix:List (Ky×List Fa)}(hw:WY w PS U (some ix))(_hf:w.2.1.length≤1000)(h:∀key,bw bx (.slice 64 aO) key ix=keyF key w.2.1)(d k:Int):MY w PS U (some ix) d k (Oa w d k):=by
 have hB:=hB
 refine⟨hw,fun p hP=>?_⟩
 have hpl:(aboutL w.1.1 (some ix) p).length≤aE:=by
  obtain⟨L,e,hL,_⟩:=about_eq hw p d k true none () [] [] []
  rw[about_u hw p d k true none () [] [] []] at e
  have e:=kf e
  simp only[gJ,true_and,and_true] at e
  rw[e]
  omega
 rw[Dx (w.1,(aboutL w.1.1 (some ix) p,())) hw.sw.nb hw.sw.rules hw.fl hpl,Eo w.1.1 w.2.1 ix h]
 unfold Oa
 rw[oV (d':=d) Iff.rfl (V:=fun q=>iU w.2.1 q d k) (V':=fun q=>iU (qc w.1.1 w.2.1 p) q d k) fun r hr=>?_,zO]
 obtain⟨⟨c,hc,rfl⟩,h1,h2,_⟩:=zN hr
 obtain⟨b,eb,hb⟩:=recorded_eq w.1.1 hw.sw.rules p.1
 have h1:b=true:=by unfold Bz at h1;rw[eb] at h1;exact h1
 obtain⟨a0,a1,_⟩:=hb h1
 obtain⟨i0,i1⟩:=(xy _ _).2 h2
 exact Gw w.1.1 w.2.1 (p:=p.2.1) a0 a1 (hw.fl _ a0 a1) i0 i1 hc d k
theorem MXo{w:bT}{lo PS:Ze}{U:List Pl}{ix:List (Ky×List Fa)}(hw:WX w lo PS U (some ix))(hf:w.2.1.length≤1000)(h:∀key,bw bx (.slice 64 aO) key ix=keyF key w.2.1)(m:DM)(d k:Int):MX w lo PS U (some ix) m d k (Oa w d k) (LQ w.1.1 m lo):=⟨hw,Yr hw.y hf h d k,Dw hw.cg.rk.pre m⟩
theorem I7{w:bT}{α:Type}(x:Qy α)(d k k':Int)(h:∀r∈(x.run (Oa w d k)).2,r.2.1=d→0≤d→d<1024→r.2.2.1=aZ (d+(1:Int))→iU w.2.1 r.1 d k'=iU w.2.1 r.1 d k):x.run (Oa w d k')=x.run (Oa w d k):=by
 have:=Qy.two (O:=Oa w d k) (O':=Oa w d k') (G:=fun r=>r.2.1=d→0≤d→d<1024→r.2.2.1=aZ (d+(1:Int))→iU w.2.1 r.1 d k'=iU w.2.1 r.1 d k) (σ:=id) (fun p hG=>?_) x h
 ·rw[this,List.map_id]
 ·unfold Oa at hG ⊢
  rw[oV (d':=d) Iff.rfl (V:=fun q=>iU w.2.1 q d k) (V':=fun q=>iU w.2.1 q d k') fun r hr=>?_,zO,List.map_id]
  obtain⟨⟨c,_,rfl⟩,_,_,d0,d1⟩:=zN hr
  exact hG _ hr rfl d0 d1 rfl
theorem Gx{w:bT}{α:Type}(x:Qy α)(d d' k:Int)(hd:0≤d∧d<1024↔0≤d'∧d'<1024)(h:∀q,iU w.2.1 q d' k=iU w.2.1 q d k):x.run (Oa w d' k)=((x.run (Oa w d k)).1,(x.run (Oa w d k)).2.map (sg d')):=
 Qy.two (O:=Oa w d k) (O':=Oa w d' k) (G:=fun _=>True) (σ:=sg d') (fun _ _=>oV hd fun _ _=>h _) x fun _ _=>trivial
theorem bd6(g:List Fa)(f e:Int)(c:Ze)(hc:c.length≤10)(h:Zm)(hl:h.length≤1000):
 W (B5 (Int.toNat (c.length:Int)+1) (g,f,e,(c.length:Int),0,h,c)) (CT (fun r=>∃h':Zm,r=(g,f,e,h')∧h'.length≤h.length+c.length∧(∀x,ck (.int .i64) x h=true→ck (.int .i64) x h'=true)∧(∀x∈c,0≤x→x<1024→ck (.int .i64) x h'=true)∧((∀x,ck (.int .i64) x h=true→0≤x∧x<1024)→∀x,ck (.int .i64) x h'=true→0≤x∧x<1024)) fun _=>False):=by
 have hB:=hB
 refine cD (L:=B5) rfl _ c.length (fun n(h:Zm)=>(g,f,e,(c.length:Int),(n:Int),h,c)) (fun n h'=>h'.length≤h.length+n∧(∀x,ck (.int .i64) x h=true→ck (.int .i64) x h'=true)∧(∀j(hj:j<c.length),j<n→0≤c[j]→c[j]<1024→ck (.int .i64) c[j] h'=true)∧((∀x,ck (.int .i64) x h=true→0≤x∧x<1024)→∀x,ck (.int .i64) x h'=true→0≤x∧x<1024)) ?step ?stop _ 0 h (by omega) (by omega) ⟨cL _,fun _ h=>h,fun j _ h=>absurd h (Nat.not_lt_zero _),fun h=>h⟩
 case step=>
  rintro rec n h' hn ⟨i1,i2,i3,i4⟩ kk
  dsimp only
  have hw2:=ka n (by omega)
  rw[cH (by omega),ei n,aA (show(n:Int)<(c.length:Int) by omega),cT (t:=.int .i64) hn]
  have put:0≤c[n]→c[n]<1024→W (rec (g,f,e,(c.length:Int),((n+1:Nat):Int),bB (.int .i64) c[n] true h',c)) _:=fun c0 c1=>kk (bB (.int .i64) c[n] true h') ⟨by have:(bB (.int .i64) c[n] true h').length≤h'.length+1:=dr (kt:=.int .i64);omega,fun x hx=>?_,fun j hj hjn x0 x1=>?_,fun hh x hx=>?_⟩
  ·by_cases c0:0≤c[n]
   ·rw[cH c0]
    by_cases c1:c[n]<1024
    ·rw[cu c1,aJ,aA rfl,aA (show h'.length+1≤aE by omega),hw2]
     exact put c0 c1
    ·rw[dz c1,aJ,aC (by decide),hw2]
     refine kk h' ⟨by omega,i2,fun j hj hjn x0 x1=>?_,i4⟩
     by_cases e:j=n
     ·subst e;exact absurd x1 c1
     ·exact i3 j hj (by omega) x0 x1
   ·rw[aC (show¬decide ((0:Int)≤c[n])=true by simpa using c0),aJ,aC (by decide),hw2]
    refine kk h' ⟨by omega,i2,fun j hj hjn x0 x1=>?_,i4⟩
    by_cases e:j=n
    ·subst e;exact absurd x0 c0
    ·exact i3 j hj (by omega) x0 x1
  ·by_cases e:x=c[n]
   ·rw[e];exact gN (kt:=.int .i64) rfl _ _ _
   ·rw[fF (kt:=.int .i64) rfl e];exact i2 x hx
  ·by_cases e:c[j]=c[n]
   ·rw[e];exact gN (kt:=.int .i64) rfl _ _ _
   ·rw[fF (kt:=.int .i64) rfl e]
    refine i3 j hj ?_ x0 x1
    have:j≠n:=fun h=>e (by subst h;rfl)
    omega
  ·by_cases e:x=c[n]
   ·rw[e];exact⟨c0,c1⟩
   ·rw[fF (kt:=.int .i64) rfl e] at hx;exact i4 hh x hx
 case stop=>
  rintro rec h' ⟨i1,i2,i3,i4⟩
  dsimp only
  rw[gu (by omega)]
  refine⟨_,rfl,h',rfl,i1,i2,fun x hx x0 x1=>?_,i4⟩
  obtain⟨j,hj,rfl⟩:=gH hx
  exact i3 j hj hj x0 x1
structure Bd(l:List Fa)(B:Ze):Prop where
 len:B.length≤61
 zero:(0:Int)∈B
 all:∀f∈l,(0≤f.2.2.1.1→f.2.2.1.1<1024→f.2.2.1.1∈B)∧(0≤f.2.2.1.2.1→f.2.2.1.2.1<1024→f.2.2.1.2.1∈B)
 yv:∀x∈B,0≤x∧x<1024
theorem Ep(w:bT)(hf:w.2.1.length≤30):∃B,f28 w=some B∧Bd w.2.1 B:=by
 have hB:=hB
 suffices hW:W (f28 w) fun B=>Bd w.2.1 B from hW
 unfold f28
 have h00:bB (.int .i64) (0:Int) true ([]:Zm)= [((0:Int),true)]:=rfl
 rw[aA (show List.length ([]:Zm)+1≤aE by rw[jK];omega),h00]
 refine bN.2 (W.ct (cD (L:=GO) rfl (CT (fun h=>h.length≤61∧ck (.int .i64) 0 h=true∧(∀j(hj:j<w.2.1.length),(0≤w.2.1[j].2.2.1.1→w.2.1[j].2.2.1.1<1024→ck (.int .i64) w.2.1[j].2.2.1.1 h=true)∧(0≤w.2.1[j].2.2.1.2.1→w.2.1[j].2.2.1.2.1<1024→ck (.int .i64) w.2.1[j].2.2.1.2.1 h=true))∧∀x,ck (.int .i64) x h=true→0≤x∧x<1024) fun _=>False) w.2.1.length (fun c(h:Zm)=>(w.2.1,(w.2.1.length:Int),(c:Int),h)) (fun c h=>h.length≤1+2*c∧ck (.int .i64) 0 h=true∧(∀j(hj:j<w.2.1.length),j<c→(0≤w.2.1[j].2.2.1.1→w.2.1[j].2.2.1.1<1024→ck (.int .i64) w.2.1[j].2.2.1.1 h=true)∧(0≤w.2.1[j].2.2.1.2.1→w.2.1[j].2.2.1.2.1<1024→ck (.int .i64) w.2.1[j].2.2.1.2.1 h=true))∧∀x,ck (.int .i64) x h=true→0≤x∧x<1024) ?step ?stop _ 0 [((0:Int),true)] (by omega) (by omega) ⟨cL _,rfl,fun j _ h=>absurd h (Nat.not_lt_zero _),fun x hx=>?_⟩) (fun h hh=>?_) fun r hr=>hr.elim)
 case step=>
  rintro rec c h hc ⟨i1,i2,i3,i4⟩ kk
  dsimp only
  have hw2:=ka c (by omega)
  have hcc:(c:Int)<(w.2.1.length:Int):=by omega
  rw[cH hcc,ei c,aA hcc,cT (t:=aO) hc]
  refine bN.2 ((bd6 w.2.1 (w.2.1.length:Int) (c:Int) [w.2.1[c].2.2.1.1,w.2.1[c].2.2.1.2.1] (by simp) h (by omega)).ct (fun r hr=>?_) fun r hr=>hr.elim)
  obtain⟨h',rfl,q1,q2,q3,q4⟩:=hr
  dsimp only
  rw[hw2]
  refine kk h' ⟨by simp only[dH,jK] at q1;omega,q2 _ i2,fun j hj hjc=>?_,q4 i4⟩
  by_cases e:j=c
  ·subst e
   exact⟨fun x0 x1=>q3 _ (du ..) x0 x1,fun x0 x1=>q3 _ (dT _ (du ..)) x0 x1⟩
  ·obtain⟨g1,g2⟩:=i3 j hj (by omega)
   exact⟨fun x0 x1=>q2 _ (g1 x0 x1),fun x0 x1=>q2 _ (g2 x0 x1)⟩
 case stop=>
  rintro rec h ⟨i1,i2,i3,i4⟩
  dsimp only
  rw[gu (by omega)]
  exact⟨_,rfl,by omega,i2,fun j hj=>i3 j hj hj,i4⟩
 ·have:=(eo (kt:=.int .i64) rfl).1 hx
  rw[dC,List.map_nil,lj] at this
  rw[show x=(0:Int) from this]
  exact⟨by decide,by decide⟩
 ·obtain⟨i1,i2,i3,i4⟩:=hh
  have e1:BX h=some h:=rfl
  have e2:nZ h=some (h,sy (h.map (·.1))):=aA (by omega)
  rw[e1,aJ,e2,aJ]
  have hm:∀x,x∈sy (h.map (·.1))↔ck (.int .i64) x h=true:=fun x=>(kF _).mem_iff.trans (eo (kt:=.int .i64) rfl).symm
  refine⟨_,rfl,by rw[(kF _).length_eq,iO];exact i1,(hm 0).2 i2,fun f hf=>?_,fun x hx=>i4 x ((hm x).1 hx)⟩
  obtain⟨j,hj,rfl⟩:=gH hf
  obtain⟨g1,g2⟩:=i3 j hj
  exact⟨fun x0 x1=>(hm _).2 (g1 x0 x1),fun x0 x1=>(hm _).2 (g2 x0 x1)⟩
theorem Bd.last{l:List Fa}{B:Ze}(h:Bd l B):∀n:Nat,∃e:Nat,e≤n∧(e:Int)∈B∧∀x:Int,(e:Int)<x→x≤(n:Int)→x∉B
 |0=>⟨0,cL _,h.zero,fun x h1 h2=>by omega⟩
 |
  n+1=>by
  by_cases hn:((n+1:Nat):Int)∈B
  ·exact⟨n+1,cL _,hn,fun x h1 h2=>by omega⟩
  ·obtain⟨e,e1,e2,e3⟩:=h.last n
   refine⟨e,by omega,e2,fun x h1 h2 hx=>?_⟩
   by_cases hx2:x=((n+1:Nat):Int)
   ·subst hx2;exact hn hx
   ·exact e3 x h1 (by omega) hx
theorem zS{d d':Int}:∀(l:List Fa)(s:Fa×Bool),(∀f∈l,(f.2.2.1.1≤d↔f.2.2.1.1≤d')∧(d<f.2.2.1.2.1↔d'<f.2.2.1.2.1))→l.foldl (eI d) s=l.foldl (eI d') s
 |[],_,_=>rfl
 |
  f::l,s,h=>by
  have e:eI d s f=eI d' s f:=by
   unfold eI
   obtain⟨h1,h2⟩:=h f (du ..)
   simp only[h1,h2]
  rw[List.foldl_cons,List.foldl_cons,e]
  exact zS l _ fun x hx=>h x (dT _ hx)
theorem Bd.day{l:List Fa}{B:Ze}(h:Bd l B){d:Int}(d0:0≤d)(d1:d<1024):∃e∈B,0≤e∧e<1024∧∀q k,iU l q d k=iU l q e k:=by
 obtain⟨e,e1,e2,e3⟩:=h.last d.toNat
 refine⟨(e:Int),e2,by omega,by omega,fun q k=>?_⟩
 have:∀f∈l,(f.2.2.1.1≤d↔f.2.2.1.1≤(e:Int))∧(d<f.2.2.1.2.1↔(e:Int)<f.2.2.1.2.1):=fun f hf=>by
  obtain⟨g1,g2⟩:=h.all f hf
  refine⟨⟨fun hx=>?_,fun hx=>by omega⟩,⟨fun hx=>by omega,fun hx=>?_⟩⟩
  ·refine Classical.byContradiction fun hn=>?_
   exact e3 _ (Int.not_le.1 hn) (by omega) (g1 (by omega) (by omega))
  ·refine Classical.byContradiction fun hn=>?_
   exact e3 _ hx (by omega) (g2 (by omega) (by omega))
 unfold iU gR
 rw[zS (l.filter (dg q k)) (zF,false) fun f hf=>this f (List.mem_filter.1 hf).1]
variable{w:bT} {lo PS:Ze} {U:List Pl} {ix:Ix} {m:DM} {d k:Int} {O:Pl→An} {L:Pl→Qy Rs}
def qd(b:Bool)(m:DM)(a p d:Int):Bool:=b&&(bw (.int .i64) .bool a (bM m)&&(decide ((0:Int)≤p)&&(decide (p<(4096:Int))&&(decide ((0:Int)≤d)&&decide (d<(1024:Int))))))
theorem zT(a p:Int)(w:bT)(ix:Ix)(d k:Int)(b:Bool)(m:DM)(z:Unit)(fo:FM)(se:SM)(rs:List Rd):
 tY a p w ix d k b m z fo se rs=some (qd b m a p d,w,ix,d,k,b,m,z,fo,se,rs):=by
 unfold tY qd
 cases b<;>cases bw (.int .i64) .bool a (bM m)<;>cases decide ((0:Int)≤p)<;>cases decide (p<(4096:Int))<;>cases decide ((0:Int)≤d)<;>cases decide (d<(1024:Int))<;>rfl
def tV(b:Bool)(m:DM)(a p d i:Int):Bool:= !bw (.int .i64) .bool a (bM m)||(decide (i=0)&&qd b m a p d)
def Ri(O:Pl→An)(L:Pl→Qy Rs)(b:Bool)(m:DM)(a p d i:Int):List Rd:=if tV b m a p d i=true then((L (a,(p,(i,())))).run O).2 else[]
theorem Md(a p i:Int)(b:Bool)(z:Unit){fo:FM}{se:SM}{rs:List Rd}(h:MI w.1.1 PS U O L fo se rs)
 (hk:tV b m a p d i=true→W (eB (a,(p,(i,()))) w ix d k b m z fo se rs) (LP w PS U ix m d k O L b z (a,(p,(i,()))) rs)):
 W (ya a p i w ix d k b m z fo se rs) fun r=>∃ok fo' se' x,r=(ok,w,ix,d,k,b,m,z,fo',se',x,dW rs (Ri O L b m a p d i))∧MI w.1.1 PS U O L fo' se' (dW rs (Ri O L b m a p d i)):=by
 unfold ya Ri
 have go:tV b m a p d i=true→W (Option.bind (eB (a,(p,(i,()))) w ix d k b m z fo se rs) fun⟨z,aa,ab,ac,ad,ae,af,ag,ah,y,ai⟩=>some (y.2.2.2.1,z,aa,ab,ac,ad,ae,af,ag,ah,y.1,ai)) fun r=>∃ok fo' se' x,r=(ok,w,ix,d,k,b,m,z,fo',se',x,dW rs ((L (a,(p,(i,())))).run O).2)∧MI w.1.1 PS U O L fo' se' (dW rs ((L (a,(p,(i,())))).run O).2):=fun hl=>by
  refine pY.2 ((hk hl).mono fun r hr=>?_)
  obtain⟨fo',se',rfl,h',_⟩:=hr
  exact⟨_,rfl,_,fo',se',_,rfl,h'⟩
 cases hm:bw (.int .i64) .bool a (bM m) with
 |
  false=>
  have hl:tV b m a p d i=true:=by unfold tV;rw[hm];rfl
  rw[aC (by decide),aH,aA hl]
  exact go hl
 |
  true=>
  rw[aA rfl]
  by_cases hi:i=0
  ·rw[aC (show¬(!decide (i=(0:Int)))=true by simp[hi]),zT,aJ]
   dsimp only
   have hl:tV b m a p d i=qd b m a p d:=by unfold tV;rw[hm,cu hi];rfl
   rw[hl] at go ⊢
   cases hb:qd b m a p d with
   |
    false=>
    rw[aA (show(!false)=true from rfl),aC (by decide)]
    exact⟨_,rfl,false,fo,se,_,rfl,h⟩
   |
    true=>
    rw[aC (show¬(!true)=true by decide),aH,aA rfl]
    exact go hb
  ·have hl:tV b m a p d i=false:=by unfold tV;rw[hm,dz hi];rfl
   rw[aA (show(!decide (i=(0:Int)))=true by simp[hi]),hl,aC (by decide)]
   exact⟨_,rfl,false,fo,se,_,rfl,h⟩
theorem I8(a p bf af:Int)(B:Ze)(n c:Int)(w':bT)(b:Bool)(z:Unit)(acc:List Rd)
 (hk:∀i:Int,0≤i→i<4→tV b m a p d i=true→∀fo se rs,MI w.1.1 PS U O L fo se rs→W (eB (a,(p,(i,()))) w ix d k b m z fo se rs) (LP w PS U ix m d k O L b z (a,(p,(i,()))) rs)):
 W (Aq (Int.toNat (4:Int)+1) (a,p,bf,af,B,n,c,0,w',w,ix,d,k,b,m,z,[],[],[],acc)) (CT (fun r=>∃fo se rs,r=(a,p,bf,af,B,n,c,w',w,ix,d,k,b,m,z,fo,se,rs,acc)∧MI w.1.1 PS U O L fo se rs∧∀j:Int,0≤j→j<4→∀r∈Ri O L b m a p d j,r∈rs) fun _=>False):=by
 refine cD (L:=Aq) rfl _ 4 (fun i(s:FM×SM×List Rd)=>(a,p,bf,af,B,n,c,(i:Int),w',w,ix,d,k,b,m,z,s.1,s.2.1,s.2.2,acc)) (fun i s=>MI w.1.1 PS U O L s.1 s.2.1 s.2.2∧∀j:Int,0≤j→j<(i:Int)→∀r∈Ri O L b m a p d j,r∈s.2.2) ?step ?stop _ 0 ([],[],[]) (by decide) (by omega) ⟨MI.nil _ _ _ _ _,fun j h0 h1=>by omega⟩
 case step=>
  rintro rec i ⟨fo,se,rs⟩ hi ⟨hI,hR⟩ kk
  dsimp only at hI hR ⊢
  have hw2:aZ ((i:Int)+(1:Int))=((i+1:Nat):Int):=bu (by have:=hB;omega)
  rw[cH (by omega)]
  refine pY.2 ((Md a p (i:Int) b z hI fun hl=>hk _ (dD i) (by omega) hl fo se rs hI).mono fun r hr=>?_)
  obtain⟨ok,fo',se',x,rfl,h'⟩:=hr
  dsimp only
  rw[hw2]
  refine kk (fo',se',_) ⟨h',fun j h0 h1 r hr=>(me ..).2 ?_⟩
  by_cases e:j=(i:Int)
  ·subst e;exact Or.inr hr
  ·exact Or.inl (hR j h0 (by omega) r hr)
 case stop=>
  rintro rec ⟨fo,se,rs⟩ ⟨hI,hR⟩
  dsimp only at hI hR ⊢
  rw[aC (by decide)]
  exact⟨_,rfl,fo,se,rs,rfl,hI,hR⟩
theorem Me(a p bf af:Int)(B:Ze)(hBl:B.length≤61)(hU:U.length≤2000)(b:Bool)(z:Unit)(d0:Int)(O:Int→Pl→An)
 (hk:∀d∈B,∀i:Int,0≤i→i<4→tV b m a p d i=true→∀fo se rs,MI w.1.1 PS U (O d) L fo se rs→W (eB (a,(p,(i,()))) w ix d bf b m z fo se rs) (LP w PS U ix m d bf (O d) L b z (a,(p,(i,()))) rs)):
 W (Ar (Int.toNat (List.length B:Int)+1) (a,p,bf,af,B,(List.length B:Int),0,w,w,ix,d0,bf,b,m,[],z,[],[],[])) (CT (fun r=>∃rs,r=(bf,af,w,rs)∧rs.length≤1000000000∧∀d∈B,∀j:Int,0≤j→j<4→∀r∈Ri (O d) L b m a p d j,r∈rs) fun _=>False):=by
 have hB:=hB
 refine cD (L:=Ar) rfl _ B.length (fun c(s:Int×List Rd×List Rd×FM×SM)=>(a,p,bf,af,B,(List.length B:Int),(c:Int),w,w,ix,s.1,bf,b,m,s.2.1,z,s.2.2.1,s.2.2.2.1,s.2.2.2.2)) (fun c s=>s.2.2.1.length≤c*2000000∧∀j(hj:j<B.length),j<c→∀i:Int,0≤i→i<4→∀r∈Ri (O B[j]) L b m a p B[j] i,r∈s.2.2.1) ?step ?stop _ 0 (d0,[],[],[],[]) (by omega) (by omega) ⟨fg _,fun j _ h=>absurd h (Nat.not_lt_zero _)⟩
 case step=>
  rintro rec c ⟨d,rs,acc,fo,se⟩ hc ⟨i1,i2⟩ kk
  dsimp only at i1 i2 ⊢
  have hw2:=ka c (by omega)
  have hcc:(c:Int)<(B.length:Int):=by omega
  rw[cH hcc,ei c,aA hcc,cT (t:=.int .i64) hc]
  have e1:B0 B[c] bf w ix d bf b m rs z fo se=some (w,ix,d,bf,b,m,rs,z,fo,se,w,ix,B[c],bf,b,m,z,[],[],[]):=rfl
  rw[e1,aJ]
  dsimp only
  refine bN.2 (bN.2 ((I8 (O:=O B[c]) a p bf af B (List.length B:Int) (c:Int) w b z acc (hk _ (jn hc))).ct (fun r hr=>?_) fun r hr=>hr.elim))
  obtain⟨fo',se',rs',rfl,hI,hR⟩:=hr
  dsimp only
  have h1:=hI.fi.len
  have h2:=hI.fi.rs
  have h3:rs'.length≤2000000:=by omega
  have e2:yb w ix B[c] bf b m z fo' se' rs'=some (rs',w,ix,B[c],bf,b,m,rs',z,fo',se'):=by
   unfold yb f48
   rw[gG rs' 40 (by omega)]
   rfl
  rw[e2,aJ]
  dsimp only
  rw[aA (show(acc.length+rs'.length)*40≤aE by omega)]
  refine⟨_,rfl,?_⟩
  rw[ir]
  dsimp only
  rw[hw2]
  refine kk (B[c],rs',acc++rs',fo',se') ⟨by rw[dZ];omega,fun j hj hjc i hi0 hi1 r hr=>List.mem_append.2 ?_⟩
  by_cases e:j=c
  ·subst e;exact Or.inr (hR i hi0 hi1 r hr)
  ·exact Or.inl (i2 j hj (by omega) i hi0 hi1 r hr)
 case stop=>
  rintro rec ⟨d,rs,acc,fo,se⟩ ⟨i1,i2⟩
  dsimp only at i1 i2 ⊢
  rw[gu (by omega)]
  refine⟨_,rfl,acc,rfl,by omega,fun d hd i hi0 hi1 r hr=>?_⟩
  obtain⟨j,hj,rfl⟩:=gH hd
  exact i2 j hj hj i hi0 hi1 r hr
theorem vQ(a:Int):∀(l:List Ru)(m:Zm),(bw (.int .i64) .bool a m=true∨∃u∈l,u.2.1=a)→bw (.int .i64) .bool a (l.foldl (fun m u=>bB (.int .i64) u.2.1 true m) m)=true
 |[],m,h=>h.elim id fun⟨u,hu,_⟩=>(by cases hu)
 |
  u::l,m,h=>by
  rw[List.foldl_cons]
  refine vQ a l _ ?_
  by_cases e:a=u.2.1
  ·left
   rw[e]
   exact dp (kt:=.int .i64) (vt:=.bool) rfl _ _ _
  ·rcases h with h|⟨v,hv,hva⟩
   ·left
    rw[dj (kt:=.int .i64) (vt:=.bool) rfl e]
    exact h
   ·rcases List.mem_cons.1 hv with rfl|hv
    ·exact absurd hva.symm e
    ·exact Or.inr ⟨v,hv,hva⟩
def Uu(w:bT)(p a:Int):List Pl:=((List.range 4).map fun(j:Nat)=>(a,(p,((j:Int),()))))++Uo w p (a,(p,((0:Int),())))
theorem Mf(w:bT)(p a:Int){i:Int}(h0:0≤i)(h1:i<4):(a,(p,(i,())))∈Uu w p a:=
 iN _ (List.mem_map.2 ⟨i.toNat,List.mem_range.2 (by omega),by rw[show((i.toNat:Nat):Int)=i by omega]⟩)
theorem BA{w:bT}(p a:Int)(hT:FT w.1.1)(hf:w.2.1.length≤30):(Uu w p a).length≤2000:=by
 have:=Gp p (a,(p,((0:Int),()))) hT hf
 unfold Uu
 rw[dZ,iO,List.length_range]
 omega
theorem WXu{w:bT}{lo:Ze}(hc:CG w.1.1 lo)(hT:FT w.1.1)(hf:w.2.1.length≤30)(p a:Int){ix:Ix}(hix:IX (zH w p) ix):WX w lo (zH w p) (Uu w p a) ix:=
 {Yq hc hT hf p (a,(p,((0:Int),()))) hix with
  pl:=fun b q i h0 h1 h2 h3 h4=>mV _ ((Yq hc hT hf p (a,(p,((0:Int),()))) hix).pl b q i h0 h1 h2 h3 h4)
  len:=cG (BA p a hT hf) (by decide)}
theorem WYu{w:bT}(hs:SA w.1.1)(hT:FT w.1.1)(hf:w.2.1.length≤30)(p a:Int){ix:Ix}(hix:IX (zH w p) ix):WY w (zH w p) (Uu w p a) ix:=
 ⟨hs.sw,cG (BA p a hT hf) (by decide),fun a a0 a1=>cG (hT.fields _ (dv (t:=bG) (l:=w.1.1.2.2.1) a0 a1)) (by decide),hix⟩
theorem IXo{w:bT}(hf:w.2.1.length≤30)(p:Int){ix:List (Ky×List Fa)}(h:∀key,bw bx (.slice 64 aO) key ix=keyF key w.2.1):IX (zH w p) (some ix):=fun key=>by
 have e:bw bx (.slice 64 aO) key (bM (some ix))=keyF key w.2.1:=h key
 have hle:(keyF key w.2.1).length≤w.2.1.length:=sE ..
 rw[e]
 exact⟨by omega,fun f hf=>dT _ (dT _ (iN _ (List.mem_map.2 ⟨f,(List.mem_filter.1 hf).1,rfl⟩)))⟩
abbrev dM(w:bT):DM:=some (derM w.1.1.2.2.2.1)
def LL(w:bT)(lo:Ze)(r:Int):Pl→Qy Rs:=if r=0 then LQ w.1.1 (dM w) lo else iT w.1.1 (dM w) fun _=>.ret zR
theorem zU{w:bT}(hs:SA w.1.1)(hT:FT w.1.1)(hf:w.2.1.length≤30){lo:Ze}{r:Int}(hcg:r=0→CG w.1.1 lo)(a p:Int){ix:List (Ky×List Fa)}(h:∀key,bw bx (.slice 64 aO) key ix=keyF key w.2.1)(d k:Int)(z:Unit){i:Int}(h0:0≤i)(h1:i<4)(hl:tV (decide (r=0)) (dM w) a p d i=true)(fo:FM)(se:SM)(rs:List Rd)(hI:MI w.1.1 (zH w p) (Uu w p a) (Oa w d k) (LL w lo r) fo se rs):
 W (eB (a,(p,(i,()))) w (some ix) d k (decide (r=0)) (dM w) z fo se rs) (LP w (zH w p) (Uu w p a) (some ix) (dM w) d k (Oa w d k) (LL w lo r) (decide (r=0)) z (a,(p,(i,()))) rs):=by
 have hU:=Mf w p a h0 h1
 have hP:p∈zH w p:=dT _ (du ..)
 have hix:=IXo hf p h
 have Y:=Yr (WYu hs hT hf p a hix) (by omega) h d k
 refine Gt Y _ z _ hI hU hP ?_
 by_cases hm:bw (.int .i64) .bool a (bM (dM w))=true
 ·have hr:r=0:=by
   refine Classical.byContradiction fun hr=>?_
   unfold tV qd at hl
   rw[hm,dz hr] at hl
   simp at hl
  have X:=MXo (WXu (hcg hr) hT hf p a hix) (by omega) h (dM w) d k
  have e:LL w lo r=LQ w.1.1 (dM w) lo:=aA hr
  rw[e] at hI ⊢
  exact Gr X _ z _ hI hU hP
 ·refine Gs Y _ z _ ?_ hm hI hU hP
  unfold LL
  by_cases hr:r=0
  ·rw[aA hr];exact Dw (hcg hr).rk.pre _ _
  ·rw[aC hr]
   unfold iT
   rw[aC hm,aC hm]
theorem BB{w:bT}(hs:SA w.1.1)(hT:FT w.1.1)(hf:w.2.1.length≤30){lo:Ze}{r:Int}(er:f18 w.1=some r)(hcg:r=0→CG w.1.1 lo)(a p bf af:Int):
 ∃y B,f14 w a p bf af=some y∧Bd w.2.1 B∧(y=false→∀d∈B,∀i:Int,0≤i→i<4→∀q∈Ri (Oa w d bf) (LL w lo r) (decide (r=0)) (dM w) a p d i,OKr w.2.1 bf af q):=by
 obtain⟨ix,e1,h1⟩:=newF_u w (by omega) hs.sw.rules (0:Int) bf (decide (r=(0:Int)))
 obtain⟨B,e2,hB⟩:=Ep w hf
 have hd:=Me (w:=w) (ix:=some ix) (m:=dM w) (L:=LL w lo r) (U:=Uu w p a) (PS:=zH w p) a p bf af B hB.len (BA p a hT hf) (decide (r=0)) () 0 (fun d=>Oa w d bf) fun d _ i h0 h1' hl fo se rs hI=>zU hs hT hf hcg a p h1 d bf () h0 h1' hl fo se rs hI
 obtain⟨c,ec,hc⟩:=hd
 cases c with
 |ret c=>exact hc.elim
 |
  brk c=>
  obtain⟨rs,rfl,hl,hR⟩:=hc
  obtain⟨y,ey,hy⟩:=alike_eq w.2.1 (by omega) rs hl bf af
  refine⟨!y,B,?_,hB,fun h d hd i h0 h1 q hq=>hy (by cases y;cases h;rfl) q (hR d hd i h0 h1 q hq)⟩
  unfold f14
  rw[er,aJ,e1,aJ]
  dsimp only
  rw[e2,aJ,ec,aH]
  dsimp only
  rw[ey]
  rfl
theorem zV{w:bT}(hf:w.2.1.length≤30){B:Ze}(hB:Bd w.2.1 B){α:Type}(x:Qy α)(bf af:Int){day:Int}(d0:0≤day)(d1:day<1024)(h:∀e∈B,∀q∈(x.run (Oa w e bf)).2,OKr w.2.1 bf af q):(x.run (Oa w day bf)).1=(x.run (Oa w day af)).1:=by
 obtain⟨e,he,e0,e1,hv⟩:=hB.day d0 d1
 have h1:=Gx (w:=w) x e day bf (by omega) fun q=>hv q bf
 have h2:=Gx (w:=w) x e day af (by omega) fun q=>hv q af
 have h3:=I7 (w:=w) x e bf af fun r hr g1 _ _ g2=>by
  have hw:aZ (e+(1:Int))=e+1:=fA (by have:=hB;omega) (by omega)
  have ed:((e.toNat:Nat):Int)=e:=by omega
  have:=(h e he r hr).at' (by omega) (dy:=e.toNat) (by omega) (by omega) (by rw[g2,hw];omega)
  rw[ed] at this
  exact this.symm
 rw[h1,h2,h3]
theorem zW{s:cz}{V:Ky→Int×Bool}{a p i d:Int}:∀(n c:Nat)(t:Ze)(rs:List Rd),(lJ s V a p i d n c t rs).2.1.2.2.2.1.length≤t.length+n
 |0,_,_,_=>cL _
 |
  n+1,c,t,rs=>by
  unfold lJ
  split
  ·have:=zW (s:=s) (V:=V) (a:=a) (p:=p) (i:=i) (d:=d) n (c+1) (t++[(V (gF a p i c)).1]) (rs++[jU a p i d c])
   rw[dZ,cM] at this
   omega
  ·exact fg _
theorem qe{ch:Ru→Qy (Bool×List In)}{bd:Ru→List In→In}{R:List Ru}{a:Int}{O:Pl→An}:∀n c,((gP ch bd R a n c).run O).1.2.2.2.1=true∨((gP ch bd R a n c).run O).1=zR
 |0,_=>Or.inr rfl
 |
  n+1,c=>by
  unfold gP
  split
  ·rw[Qy.run_bind]
   dsimp only
   split
   ·exact Or.inl rfl
   ·exact qe n (c+1)
  ·exact qe n (c+1)
theorem uQ(l:Ze)(hl:l.length≤1000000000):f11 l l=some true:=by
 have hB:=hB
 suffices hW:W (f11 l l) fun r=>r=true by
  obtain⟨r,e,rfl⟩:=hW
  exact e
 unfold f11
 rw[aC (show¬(!decide ((l.length:Int)=(l.length:Int)))=true by simp)]
 refine bN.2 (W.ct (cD (L:=EJ) rfl (CT (fun _=>True) fun r=>r=true) l.length (fun c(_:Unit)=>(l,l,(c:Int))) (fun _ _=>True) ?step ?stop gD 0 () (by show _<18446744073709551616;omega) (by omega) trivial) (fun d _=>⟨_,rfl,rfl⟩) fun r hr=>hr)
 case step=>
  intro rec c _ hc _ kk
  dsimp only
  have hw2:=ka c (by omega)
  have hcc:(c:Int)<(l.length:Int):=by omega
  rw[cH hcc,ei c,aA hcc,ei c,aA hcc,aC (show¬(!decide (nth (.int .i64) l (c:Int)=nth (.int .i64) l (c:Int)))=true by simp),hw2]
  exact kk () trivial
 case stop=>
  intro rec _ _
  dsimp only
  rw[gu (by omega)]
  exact⟨_,rfl,trivial⟩
theorem Pp{w:bT}(hs:SA w.1.1)(hT:FT w.1.1)(hf:w.2.1.length≤30){lo:Ze}{r:Int}(er:f18 w.1=some r)(hcg:r=0→CG w.1.1 lo)(a p d k:Int):
 f34 w a p d k=some (if qd (decide (r=0)) (dM w) a p d=true then(dW [] ((LL w lo r (a,(p,(0,())))).run (Oa w d k)).2,((LL w lo r (a,(p,(0,())))).run (Oa w d k)).1.2.2.2.1,((LL w lo r (a,(p,(0,())))).run (Oa w d k)).1.1) else([],false,zI))∧
 (qd (decide (r=0)) (dM w) a p d=true→((LL w lo r (a,(p,(0,())))).run (Oa w d k)).1.1.2.2.2.1.length≤1000):=by
 obtain⟨ix,e1,h1⟩:=newF_u w (by omega) hs.sw.rules d k (decide (r=(0:Int)))
 unfold f34 f55
 rw[er,aJ,e1,aJ]
 dsimp only
 rw[zT,aJ]
 dsimp only
 cases hi:qd (decide (r=(0:Int))) (dM w) a p d with
 |false=>exact⟨rfl,fun h=>(by cases h)⟩
 |
  true=>
  rw[aC (show¬(!true)=true by decide),aA rfl]
  obtain⟨x,ex,fo,se,rfl,_,hx⟩:=zU hs hT hf hcg a p h1 d k () (i:=0) (by omega) (by omega) (by unfold tV;rw[hi];cases bw (.int .i64) .bool a (bM (dM w))<;>rfl) [] [] [] (MI.nil _ _ _ _ _)
  rw[ex]
  refine⟨rfl,fun _=>?_⟩
  unfold qd at hi
  rw[aV,aV] at hi
  obtain⟨hr,hm,_⟩:=hi
  have hr:=jL hr
  obtain⟨u,hu,hua⟩:=derM_get a _ hm
  have hR:=(hcg hr).tg.rules u hu
  have fJ:((LL w lo r (a,(p,(0,())))).run (Oa w d k)).1.2.2.2.1=true∨((LL w lo r (a,(p,(0,())))).run (Oa w d k)).1=zR:=by
   unfold LL
   rw[aA hr,Dw (hcg hr).rk.pre]
   unfold iT
   rw[aA hm]
   exact qe _ _
  rcases fJ with h|h
  ·rw[(hx h).1,←hua]
   exact cG (hT.fields _ (dv (t:=bG) (l:=w.1.1.2.2.1) hR.h0 hR.h1)) (by decide)
  ·rw[h];exact fg _
theorem Er{w:bT}(hs:SA w.1.1)(hT:FT w.1.1)(hf:w.2.1.length≤30){lo:Ze}{r:Int}(er:f18 w.1=some r)(hcg:r=0→CG w.1.1 lo)(a p i day bf af:Int){B:Ze}(hB:Bd w.2.1 B)
 (h:∀d∈B,∀i:Int,0≤i→i<4→∀q∈Ri (Oa w d bf) (LL w lo r) (decide (r=0)) (dM w) a p d i,OKr w.2.1 bf af q):
 ∃r1 r2 ok x,f15 w a p i day bf=some (r1,ok,x)∧f15 w a p i day af=some (r2,ok,x)∧x.2.2.2.1.length≤1000000000:=by
 have hBB:=hB
 have hmx:=Go.Proofs.YtgdcjlldafmomaaGreat.hB
 obtain⟨b,eb,hb⟩:=uO w.1.1 hs.sw.rules a
 have hd:bw (.int .i64) .bool a (bM (dM w))=true↔∃u∈w.1.1.2.2.2.1,u.2.1=a:=⟨derM_get a _,fun h=>vQ a _ _ (Or.inr h)⟩
 have hfl:∀a,0≤a→a<(w.1.1.2.2.1.length:Int)→(flds w.1.1 a).length≤1000:=fun a a0 a1=>cG (hT.fields _ (dv (t:=bG) (l:=w.1.1.2.2.1) a0 a1)) (by decide)
 cases b with
 |
  false=>
  have hm:¬bw (.int .i64) .bool a (bM (dM w))=true:=fun hm=>by cases hb.2 (hd.1 hm)
  have e:∀k,f15 w a p i day k=some ((Oa w day k (a,(p,(i,())))).2.2,(Oa w day k (a,(p,(i,())))).1,(Oa w day k (a,(p,(i,())))).2.1):=fun k=>by
   unfold f15
   rw[eb,aJ,aA (show(!false)=true from rfl),Dx w hs.sw.nb hs.sw.rules hfl (by omega)]
   rfl
  have hlen:(Oa w day bf (a,(p,(i,())))).2.1.2.2.2.1.length≤1000000000:=by
   unfold Oa nO
   split
   ·rename_i hc
    obtain⟨b,e2,hb2⟩:=recorded_eq w.1.1 hs.sw.rules a
    have h1:b=true:=by have:=hc.1;unfold Bz at this;rw[e2] at this;exact this
    obtain⟨a0,a1,_⟩:=hb2 h1
    have:=hfl a a0 a1
    exact cG (zW _ _ _ _) (by rw[cM];show 1+((flds w.1.1 a).length -1)≤_;omega)
   ·exact fg _
  have heq:(
   Oa w day bf (a,(p,(i,())))).1=(Oa w day af (a,(p,(i,())))).1∧(Oa w day bf (a,(p,(i,())))).2.1=(Oa w day af (a,(p,(i,())))).2.1:=by
   by_cases hi:0≤i∧i<4
   ·by_cases hdy:0≤day∧day<1024
    ·have:=zV hf hBB (.ask (a,(p,(i,()))) fun b x=>.ret (b,x):Qy (Bool×In)) bf af hdy.1 hdy.2 fun e he q hq=>h e he i hi.1 hi.2 q (by
      unfold Ri
      have hl:tV (decide (r=0)) (dM w) a p e i=true:=by unfold tV;rw[Bool.eq_false_iff.2 hm];rfl
      have hL:LL w lo r (a,(p,(i,())))= .ask (a,(p,(i,()))) fun b x=>.ret (x,(0,([],(b,())))):=by
       unfold LL
       by_cases hr:r=0
       ·rw[aA hr,Dw (hcg hr).rk.pre]
        unfold iT
        rw[aC hm]
       ·rw[aC hr]
        unfold iT
        rw[aC hm]
      rw[aA hl,hL]
      exact hq)
     exact⟨congrArg (·.1) this,congrArg (·.2) this⟩
    ·have:∀k,Oa w day k (a,(p,(i,())))=(false,zI,[]):=fun k=>aC fun h=>hdy h.2.2
     rw[this,this]
     exact⟨rfl,rfl⟩
   ·have:∀k,Oa w day k (a,(p,(i,())))=(false,zI,[]):=fun k=>aC fun h=>hi ((xy _ _).2 h.2.1)
    rw[this,this]
    exact⟨rfl,rfl⟩
  exact⟨_,(Oa w day af (a,(p,(i,())))).2.2,_,_,e bf,by rw[e af,heq.1,heq.2],hlen⟩
 |
  true=>
  have hm:=hd.2 (hb.1 rfl)
  by_cases hi:i=0
  ·have e:∀k,f15 w a p i day k=f34 w a p day k:=fun k=>by
    unfold f15
    rw[eb,aJ,aC (show¬(!true)=true by decide),aC (show¬(!decide (i=(0:Int)))=true by simp[hi])]
    cases f34 w a p day k<;>rfl
   rw[e,e]
   obtain⟨e1,l1⟩:=Pp hs hT hf er hcg a p day bf
   obtain⟨e2,_⟩:=Pp hs hT hf er hcg a p day af
   rw[e1,e2]
   cases hin:qd (decide (r=0)) (dM w) a p day with
   |false=>exact⟨_,_,false,zI,rfl,rfl,fg _⟩
   |
    true=>
    rw[aA rfl,aA rfl]
    have hin0:=hin
    unfold qd at hin
    simp only[aV,mW] at hin
    obtain⟨i1,i2,i3,i4,i5,i6⟩:=hin
    have:=zV hf hBB (LL w lo r (a,(p,(0,())))) bf af i5 i6 fun e he q hq=>h e he 0 (by omega) (by omega) q (by
     unfold Ri
     have:=hBB.yv e he
     have hl:tV (decide (r=0)) (dM w) a p e 0=true:=by
      unfold tV qd
      simp[i1,i3,i4,this.1,this.2,i2]
     rw[aA hl]
     exact hq)
    rw[←this]
    exact⟨_,_,_,_,rfl,rfl,cG (l1 hin0) (by decide)⟩
  ·have e:∀k,f15 w a p i day k=some ([],false,zI):=fun k=>by
    unfold f15
    rw[eb,aJ,aC (show¬(!true)=true by decide),aA (show(!decide (i=(0:Int)))=true by simp[hi])]
    rfl
   exact⟨_,_,_,_,e bf,e af,fg _⟩
theorem I9(w:bT)(hs:SA w.1.1):∃r,Ck w=some r∧(r=true→FT w.1.1∧w.2.1.length≤30):=by
 have e:oc gD ((0:Int),w)=some (.brk w):=by
  show oc (18446744073709551615+1) ((0:Int),w)=some (.brk w)
  unfold oc
  rw[aM]
  rfl
 obtain⟨r,er,hr⟩:=I2 w hs.ss
 unfold Ck
 rw[e,aH,er,aJ]
 cases r with
 |false=>exact⟨false,rfl,fun h=>(by cases h)⟩
 |
  true=>
  rw[aA rfl]
  by_cases h:(w.2.1.length:Int)≤30
  ·rw[cH h]
   exact⟨_,rfl,fun _=>⟨hr rfl,by omega⟩⟩
  ·rw[aC (fun h'=>h (jL h'))]
   exact⟨_,rfl,fun h=>(by cases h)⟩
theorem uR(w:bT)(hs:SA w.1.1)(a p i day bf af:Int):f4 w a p i day bf af=some true:=by
 unfold f4
 rw[Hl,aJ,aC (by decide)]
 obtain⟨r,e,hr⟩:=I9 w hs
 rw[e,aJ]
 cases r with
 |false=>rfl
 |
  true=>
  obtain⟨hT,hf⟩:=hr rfl
  obtain⟨r0,er,hc⟩:=check_eq w.1 hs
  obtain⟨lo,hcg⟩:∃lo,r0=0→CG w.1.1 lo:=by
   by_cases h:r0=0
   ·obtain⟨lo,h2⟩:=hc h
    exact⟨lo,fun _=>h2⟩
   ·exact⟨[],fun h'=>absurd h' h⟩
  obtain⟨y,B,ey,hB,hy⟩:=BB hs hT hf er hcg a p bf af
  rw[aC (by decide),ey,aJ,aJ]
  cases y with
  |true=>rfl
  |
   false=>
   obtain⟨r1,r2,ok,x,e1,e2,hl⟩:=Er hs hT hf er hcg a p i day bf af hB (hy rfl)
   have e3:f16 x x=some true:=by
    unfold f16
    rw[cu rfl,aA rfl,cu rfl,aA rfl,cu rfl,aA rfl,uQ _ hl]
    rfl
   rw[aC (by decide),aH]
   dsimp only
   rw[e1,aJ]
   dsimp only
   rw[e2,aJ]
   dsimp only
   rw[e3,aA (beq_self_eq_true _)]
   rfl
theorem pl4(a0:bT)(a1 a2 a3 a4 a5 a6:Int)(af0:wf fb a0)(_af1:wf (.int .i64) a1)(_af2:wf (.int .i64) a2)(_af3:wf (.int .i64) a3)(_af4:wf (.int .i64) a4)(_af5:wf (.int .i64) a5)(_af6:wf (.int .i64) a6):f4 a0 a1 a2 a3 a4 a5 a6=some true:=
 uR a0 (sa_of af0.1.1) a1 a2 a3 a4 a5 a6
end Go.Proofs.YtgdcjlldafmomaaGreat
