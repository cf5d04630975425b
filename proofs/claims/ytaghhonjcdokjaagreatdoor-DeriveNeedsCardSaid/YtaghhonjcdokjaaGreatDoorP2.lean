/- part -/
import Derived.Test.YtaghhonjcdokjaaGreatDoorP1
import Derived.Test.YtaghhonjcdokjaaGreatDoorUL
import Derived.Test.YtaghhonjcdokjaaGreatDoorA5
import Derived.Test.YtaghhonjcdokjaaGreatDoorFA
import Derived.Test.YtaghhonjcdokjaaGreatDoorFB
import Derived.Test.YtaghhonjcdokjaaGreatDoorUK
import Derived.Test.YtaghhonjcdokjaaGreatDoorS2
noncomputable section
namespace Go.Proofs.YtaghhonjcdokjaaGreatDoor
open Go.Ax
theorem DQ{t:dF}{n:Int}(h:f239 t n=some true):t.2.2.2.2.1= -1:=by
 unfold f239 at h
 obtain⟨v,hv,h⟩:=bind_some h
 cases h
 split at hv
 ·split at hv
  ·split at hv
   ·rename_i e;exact ki e
   ·cases hv
  ·cases hv
 ·cases hv
theorem DR{t:dF}{n:Int}(h:f240 t n=some true):t.2.2.2.2.1= -1:=by
 unfold f240 at h
 obtain⟨v,hv,h⟩:=bind_some h
 cases h
 split at hv
 ·split at hv
  ·split at hv
   ·rename_i e;exact ki e
   ·cases hv
  ·cases hv
 ·cases hv
theorem DT{t:dF}{n:Int}(h:f241 t n=some true):t.2.2.2.2.1= -1:=by
 unfold f241 at h
 obtain⟨v,hv,h⟩:=bind_some h
 cases h
 split at hv
 ·split at hv
  ·split at hv
   ·rename_i e;exact ki e
   ·cases hv
  ·cases hv
 ·cases hv
theorem idB{x:Zo}{b:Bool}(h:(Option.bind x fun y=>some y)=some b):x=some b:=by
 cases x with
 |none=>cases h
 |some a=>exact h
theorem Hj{c:dB}{t:dF}(h:f114 c t=some true):t.2.2.2.2.1<(c.1.2.1.length:Int):=by
 have neg:t.2.2.2.2.1= -1→t.2.2.2.2.1<(c.1.2.1.length:Int):=fun e=>by omega
 by_cases e1:t.1=1
 ·exact(sE h e1).2
 ·unfold f114 at h
  by_cases h1:t.1<1
  ·rw[db h1] at h;cases h
  ·by_cases h2:(4:Int)<t.1
   ·rw[aD (by simpa using h1),cU h2] at h;cases h
   ·rw[aD (by simpa using h1),dZ h2,aK,aD (by decide),aJ] at h
    dsimp only at h
    rw[aA (by omega),aA (by omega),aD (by omega),aD e1] at h
    by_cases e2:t.1=2
    ·rw[aA e2] at h;exact neg (DQ (idB h))
    ·rw[aD e2] at h
     by_cases e3:t.1=3
     ·rw[aA e3] at h;exact neg (DR (idB h))
     ·rw[aD e3,aA (by omega)] at h;exact neg (DT (idB h))
theorem DU(c:dB)(hN:NB c.1)(r:oM):∃b y,f254 c r=some (b,y)∧(b=true→y.2.2.2.2.1<(c.1.2.1.length:Int)):=by
 unfold f254
 rcases k7 c r.2.2.1 r.2.2.2.1 with⟨hi,e⟩|⟨_,y,e⟩
 ·rw[e,aK]
  dsimp only
  rw[aD (by decide)]
  have hm:=hi.mem
  obtain⟨q,hq⟩:=ph c (nth bO (cN c.1 r.2.2.1) r.2.2.2.1).2.1 ((hN _ hm.1).2 _ hm.2)
  rw[hq,aK]
  cases q with
  |false=>exact⟨false,_,rfl,fun h=>(by cases h)⟩
  |
   true=>
   rw[aD (by decide)]
   have hu:=Hj hq
   by_cases h0:0≤(nth bO (cN c.1 r.2.2.1) r.2.2.2.1).2.1.2.2.2.2.1
   ·rw[db h0,aA h0,aA hu]
    obtain⟨z,hz⟩:=pj c (nth aS c.1.2.1 (nth bO (cN c.1 r.2.2.1) r.2.2.2.1).2.1.2.2.2.2.1)
    rw[hz,aK]
    cases z with
    |false=>exact⟨false,_,rfl,fun h=>(by cases h)⟩
    |true=>exact⟨true,_,rfl,fun _=>hu⟩
   ·rw[aD (show¬decide ((0:Int)≤(nth bO (cN c.1 r.2.2.1) r.2.2.2.1).2.1.2.2.2.2.1)=true by simpa using h0)]
    exact⟨true,_,rfl,fun _=>hu⟩
 ·rw[e,aK]
  exact⟨false,_,rfl,fun h=>(by cases h)⟩
theorem JZ(s:cH)(hN:NB s)(r:oM)(n:Int):∃p,f245 s r n=some p:=by
 unfold f245
 obtain⟨b,y,e,hu⟩:=DU (s,()) hN r
 rw[e,aK]
 dsimp only
 cases b with
 |false=>exact⟨_,rfl⟩
 |
  true=>
  rw[aD (by decide)]
  by_cases h1:n<0
  ·rw[db h1];exact⟨_,rfl⟩
  ·rw[aD (show¬decide (n<(0:Int))=true by simpa using h1)]
   by_cases h2:(1048576:Int)<n
   ·rw[cU h2];exact⟨_,rfl⟩
   ·rw[dZ h2,aK,aD (by decide),aJ]
    dsimp only
    by_cases h0:0≤y.2.2.2.2.1
    ·rw[db h0,aA h0,aA (hu rfl)];exact⟨_,rfl⟩
    ·rw[aD (show¬decide ((0:Int)≤y.2.2.2.2.1)=true by simpa using h0)];exact⟨_,rfl⟩
theorem ni(a b c:Int):∃r,f246 a b c=some r:=by
 unfold f246
 repeat' (first|exact⟨_,rfl⟩|split)
def FV(s:cH)(PS:Zf)(x:yx)(a:Int):Prop:=x.2.2.2.1.length=(cN s a).length∧∀v∈x.2.2.2.1,v∈PS
structure LI(s:cH)(PS:Zf)(u:iA)(l:ZG):Prop where
 len:l.length≤u.2.2.1.length
 ok:∀x:Int,0≤x→x<(l.length:Int)→FV s PS (nth fj l x) (nth aL u.2.2.1 x).2.2.1
theorem LI.nil(s:cH)(PS:Zf)(u:iA):LI s PS u []:=⟨fR _,fun x h0 h1=>by rw[qf] at h1;omega⟩
theorem LI.push{s:cH}{PS:Zf}{u:iA}{l:ZG}(h:LI s PS u l){x:yx}(hl:l.length<u.2.2.1.length)(hx:FV s PS x (nth aL u.2.2.1 (l.length:Int)).2.2.1):LI s PS u (l++[x]):=by
 refine⟨by rw[eI,cY];omega,fun j h0 h1=>?_⟩
 rw[eI,cY] at h1
 have e:j=(j.toNat:Int):=by omega
 by_cases hj:j<(l.length:Int)
 ·have h2:=h.ok j h0 hj
  rw[e,ew (t:=fj) (by rw[eI];omega),List.getElem_append_left (by omega)]
  rw[e,ew (t:=fj) (by omega)] at h2
  exact h2
 ·have ej:j.toNat=l.length:=by omega
  have ej':j=(l.length:Int):=by omega
  rw[ej',ew (t:=fj) (by rw[eI,cY];omega),List.getElem_append_right (dD _)]
  simp only[Nat.sub_self,List.getElem_singleton]
  exact hx
abbrev cR(s:cH)(u:iA):fK:=((s,()),(u,()))
theorem xJ{s:cH}{PS:Zf}{u:iA}{l:ZG}(hL:LI s PS u l){t:gv}{n:Int}(hn:n≤(l.length:Int))(h:PK (cR s u) t n):
 0≤t.2.2.1∧t.2.2.1<(l.length:Int)∧0≤t.2.2.2.1∧t.2.2.2.1<((nth fj l t.2.2.1).2.2.2.1.length:Int)∧nth (.int .i64) (nth fj l t.2.2.1).2.2.2.1 t.2.2.2.1∈PS:=by
 have hv:t.2.2.1<(l.length:Int):=Int.lt_of_lt_of_le h.v1 hn
 obtain⟨h1,h2⟩:=hL.ok _ h.v0 hv
 have hb:=h.f.b1
 have hb:t.2.2.2.1<((nth fj l t.2.2.1).2.2.2.1.length:Int):=by rw[h1];exact hb
 exact⟨h.v0,hv,h.f.b0,hb,h2 _ (dw (t:=.int .i64) h.f.b0 hb)⟩
theorem Oe{s:cH}{PS:Zf}{u:iA}{l:ZG}(hL:LI s PS u l)(hl:l.length=u.2.2.1.length){t:gv}(ht:wK (cR s u) t):
 ∃v,f222 t l=some v∧(v∈PS∨t.2.2.1= -1∧v=t.2.2.2.2.1):=by
 unfold f222
 by_cases h:t.2.2.1= -1
 ·rw[db h];exact⟨_,rfl,Or.inr ⟨h,rfl⟩⟩
 ·rcases ht with hi|hi
  ·obtain⟨a1,a2,a3,a4,a5⟩:=xJ hL (by rw[hl];exact mV _) hi
   rw[aD (show¬decide (t.2.2.1=(-1:Int))=true by simpa using h),aA a1,aA a2,aA a3,aA a4]
   exact⟨_,rfl,Or.inl a5⟩
  ·exact absurd hi h
theorem Bu(day:Int){L:Zy}:∀(l:Zy)(s:nV×Bool),(∀f∈l,f∈L)→(s.2=true→s.1∈L)→((l.foldl (mH day) s).2=true→(l.foldl (mH day) s).1∈L)
 |[],s,_,hs=>hs
 |
  f::l,s,hl,hs=>by
  rw[List.foldl_cons]
  refine Bu day l _ (fun x hx=>hl x (eH _ hx)) ?_
  unfold mH
  split
  ·exact fun _=>hl f (dK ..)
  ·exact hs
theorem Of{l:Zy}{k:j7}{day known:Int}(h:(pn l k day known).2=true):∃f∈l,f.2.1=(pn l k day known).1:=by
 have hm:=Bu day (L:=l) (l.filter (jq k known)) (zF,false) (fun x hx=>(List.mem_filter.1 hx).1) (fun h=>by cases h)
 have e:(l.filter (jq k known)).foldl (mH day) (zF,false)=jK k day known l (zF,false):=rfl
 rw[e] at hm
 unfold pn at h ⊢
 dsimp only at h ⊢
 split at h
 ·rename_i hc
  rw[aA hc]
  exact⟨_,hm hc.1,rfl⟩
 ·cases h
theorem DV(l:Zy)(k:j7)(day known:Int)(hl:l.length≤aG):∃v b,rU l k day known=some (v,b)∧(b=true→∃f∈l,f.2.1=v):=by
 unfold rU
 rw[aA hl]
 exact⟨_,_,rfl,Of⟩
theorem kv(s:cH)(hr:s.2.2.2.1.length≤aG)(a:Int):∃b,f147 s a=some b∧(b=true→0≤a∧a<(s.2.2.1.length:Int)∧2≤(cN s a).length):=by
 have hB:=hB
 have no:∀y:Zo,y=some false→∃r,y=some r∧(r=true→0≤a∧a<(s.2.2.1.length:Int)∧2≤(cN s a).length):=fun y hy=>⟨false,hy,fun h=>(by cases h)⟩
 unfold f147
 by_cases h0:a<0
 ·rw[db h0];exact no _ rfl
 ·rw[aD (show¬decide (a<(0:Int))=true by simpa using h0)]
  by_cases h1:(s.2.2.1.length:Int)≤a
  ·rw[db h1];exact no _ rfl
  ·rw[aD (show¬decide ((s.2.2.1.length:Int)≤a)=true by simpa using h1),aA (Int.not_lt.1 h0),aA (Int.not_le.1 h1)]
   have e:(nth aU s.2.2.1 a).2.2.2.2.1=cN s a:=rfl
   rw[e]
   by_cases h2:((cN s a).length:Int)<2
   ·rw[cU h2];exact no _ rfl
   ·rw[dZ h2,aK,aD (by decide),aJ]
    dsimp only
    have yes:∀y:Zo,(∃z,y=some z)→∃z,y=some z∧(z=true→0≤a∧a<(s.2.2.1.length:Int)∧2≤(cN s a).length):=fun y ⟨z,hz⟩=>⟨z,hz,fun _=>⟨Int.not_lt.1 h0,Int.not_le.1 h1,by omega⟩⟩
    apply yes
    suffices hW:W (aI (U:=Int×Zu) (yz (Int.toNat (List.length s.2.2.2.1:Int)+1) (a,s.2.2.2.1,(List.length s.2.2.2.1:Int),(0:Int),([]:Zu))) (fun x=>some (!(bE (.int .i64) .bool x.1 x.2)))) (fun _=>True) by
     obtain⟨r,hr,_⟩:=hW
     exact⟨r,hr⟩
    refine bY.2 (W.ct (di (L:=yz) rfl (CT (fun _=>True) fun _=>True) s.2.2.2.1.length (fun c(d:Zu)=>(a,s.2.2.2.1,(s.2.2.2.1.length:Int),(c:Int),d)) (fun c d=>d.length≤c) ?step ?stop _ 0 [] (by omega) (by omega) (dD _)) (fun d h=>⟨_,rfl,trivial⟩) fun r h=>trivial)
    case step=>
     intro rec c d hc hd kk
     dsimp only
     have hw2:=nE c (by omega)
     rw[db (by omega),fP c,aA (show(c:Int)<(s.2.2.2.1.length:Int) by omega),aA (show d.length+1≤aG by omega),hw2]
     exact kk _ (dp (eM (kt:=.int .i64)) (by omega))
    case stop=>
     intro rec d hd
     dsimp only
     rw[gY (by omega)]
     exact⟨_,rfl,trivial⟩
theorem DW{PS:Zf}(v:cD)(s:cH)(hN:NB s)(hl:v.2.1.length≤aG)(hPS:∀f∈v.2.1,f.2.1∈PS)(m a p i d k:Int)(rs:Zl)(hr:(rs.length+1)*40≤aG):
 ∃c b rs',nP m a p i d v k s rs=some (c,b,a,p,i,d,v,k,s,rs')∧rs'.length=rs.length+1∧(b=true→c∈PS):=by
 unfold nP f150
 rw[aK,aA (by rw[cY];exact hr)]
 obtain⟨x,b,e,hb⟩:=DV v.2.1 (a,(p,(bB ((bB ((16:Int)*i))+m),()))) d k hl
 rw[e,aK]
 dsimp only
 cases b with
 |false=>exact⟨_,false,_,rfl,by rw[eI,cY],fun h=>(by cases h)⟩
 |
  true=>
  obtain⟨f,hf,rfl⟩:=hb rfl
  obtain⟨q,hq⟩:=rL s hN a m f.2.1
  rw[aA rfl,hq]
  exact⟨_,q,_,rfl,by rw[eI,cY],fun _=>hPS f hf⟩
theorem J0{PS:Zf}(v:cD)(hN:NB v.1.1)(hR:v.1.1.2.2.2.1.length≤aG)(hF:∀a,0≤a→a<(v.1.1.2.2.1.length:Int)→(cN v.1.1 a).length≤1000)(hl:v.2.1.length≤aG)(hPS:∀f∈v.2.1,f.2.1∈PS)(a p i d k:Int)(hp:p∈PS):
 W (f77 v a p i d k) fun r=>r.2.2.length≤1000∧(r.1=true→FV v.1.1 PS r.2.1 a):=by
 have hB:=hB
 unfold f77
 obtain⟨b,e,hb⟩:=kv v.1.1 hR a
 rw[e,aK]
 have no:∀(z:yx),(([]:Zl).length≤1000∧((false:Bool)=true→FV v.1.1 PS z a)):=fun z=>⟨fR _,fun h=>(by cases h)⟩
 cases b with
 |false=>exact⟨_,rfl,no _⟩
 |
  true=>
  obtain⟨a0,a1,a2⟩:=hb rfl
  rw[aD (by decide)]
  have hs:∃z,f148 p i=some z:=by
   unfold f148
   refine fq ?_ fun v=>⟨v,rfl⟩
   repeat' (first|exact⟨_,rfl⟩|split)
  obtain⟨z,hz⟩:=hs
  rw[hz,aK]
  cases z with
  |false=>exact⟨_,rfl,no _⟩
  |
   true=>
   rw[aD (by decide)]
   by_cases d0:d<0
   ·rw[db d0];exact⟨_,rfl,no _⟩
   ·rw[aD (show¬decide (d<(0:Int))=true by simpa using d0)]
    by_cases d1:(1024:Int)≤d
    ·rw[cU d1];exact⟨_,rfl,no _⟩
    ·rw[dZ d1,aK,aD (by decide),aJ]
     dsimp only
     have hFa:=hF a a0 a1
     have e:(nth aU v.1.1.2.2.1 a).2.2.2.2.1=cN v.1.1 a:=rfl
     refine bY.2 (W.ct (di (L:=DN) rfl (CT (fun r=>∃t s,r=(a,p,i,(0:Int),(0:Int),(0:Int),t,s)∧s.length≤1000∧t.length=(cN v.1.1 a).length∧∀x∈t,x∈PS) fun r=>r.1=false∧r.2.2.length≤1000) (cN v.1.1 a).length (fun c(u:Zf×Zl)=>((c:Int),v,a,p,i,d,k,(0:Int),(0:Int),(0:Int),v.1.1,u.1,u.2)) (fun c u=>u.1.length=c∧u.2.length≤c∧∀x∈u.1,x∈PS) ?step ?stop gn 1 ([p],[]) (by show _<18446744073709551616;omega) (by omega) ⟨rfl,fR _,fun x hx=>(by rw[List.mem_singleton.1 hx];exact hp)⟩) (fun r h=>?_) fun r h=>?_)
     case step=>
      rintro rec c ⟨t,s⟩ hc ⟨ht,hs,hP⟩ kk
      dsimp only at ht hs hP ⊢
      have hw2:=nE c (by omega)
      rw[e,aA a0,aA a1,db (by omega)]
      obtain⟨x,b,s',e2,hs',hx⟩:=DW v v.1.1 hN hl hPS (c:Int) a p i d k s (by omega)
      rw[e2,aK]
      dsimp only
      cases b with
      |false=>exact⟨_,rfl,rfl,by show s'.length≤1000;omega⟩
      |
       true=>
       rw[aD (by decide),aA (show(t.length+List.length [x])*8≤aG by rw[cY];omega),hw2]
       refine kk (t++[x],s') ⟨by rw[eI,cY,ht],by show s'.length≤c+1;omega,fun y hy=>?_⟩
       rcases List.mem_append.1 hy with h|h
       ·exact hP y h
       ·rw[List.mem_singleton.1 h];exact hx rfl
     case stop=>
      rintro rec ⟨t,s⟩ ⟨ht,hs,hP⟩
      dsimp only at ht hs hP ⊢
      rw[e,aA a0,aA a1,gY (by omega)]
      exact⟨_,rfl,t,s,rfl,by omega,ht,hP⟩
     ·obtain⟨t,s,rfl,h1,h2,h3⟩:=h
      exact⟨_,rfl,h1,fun _=>⟨h2,h3⟩⟩
     ·exact⟨h.2,fun h'=>by rw[h.1] at h';cases h'⟩
theorem rD:∀(rs:Zl)(se:Zh)(acc:Zl),se.length+rs.length≤aG→(acc.length+rs.length)*40≤aG→∃s' a',js rs se acc=some (s',a')∧s'.length≤se.length+rs.length∧a'.length≤acc.length+rs.length
 |[],se,acc,_,_=>⟨se,acc,rfl,dD _,dD _⟩
 |
  r::rs,se,acc,h1,h2=>by
  rw[fc] at h1 h2 ⊢
  unfold js
  split
  ·obtain⟨s',a',e,q1,q2⟩:=rD rs se acc (by omega) (by omega)
   exact⟨s',a',e,by omega,by omega⟩
  ·have hm:(bF bJ r true se).length≤se.length+1:=eM
   rw[aA (by omega),aA (by omega)]
   obtain⟨s',a',e,q1,q2⟩:=rD rs (bF bJ r true se) (acc++[r]) (by omega) (by rw[eI,cY];omega)
   rw[eI,cY] at q2
   exact⟨s',a',e,by omega,by omega⟩
abbrev Pl:=j7
abbrev FM:=Zk
abbrev SM:=Zh
abbrev DM:=Ze
def IX(PS:Zf)(ix:Ix):Prop:=∀key,(bE bS (.slice 64 dq) key (bK ix)).length≤1000000∧∀f∈bE bS (.slice 64 dq) key (bK ix),f.2.1∈PS
structure WX(w:cD)(lo:Zf)(PS:Zf)(U:List Pl)(ix:Ix):Prop where
 cg:CG w.1.1 lo
 zero:(0:Int)∈PS
 consts:∀u∈w.1.1.2.2.2.1,∀t∈u.2.2.2.2.1,t.2.2.1.2.2.2.2.1∈PS
 pl:∀a p i:Int,0≤a→a<(w.1.1.2.2.1.length:Int)→p∈PS→0≤i→i<4→(a,(p,(i,())))∈U
 len:U.length≤1000000
 fl:∀a,0≤a→a<(w.1.1.2.2.1.length:Int)→(cN w.1.1 a).length≤1000
 ix:IX PS ix
structure WY(w:cD)(PS:Zf)(U:List Pl)(ix:Ix):Prop where
 sw:SW w.1.1
 len:U.length≤1000000
 fl:∀a,0≤a→a<(w.1.1.2.2.1.length:Int)→(cN w.1.1 a).length≤1000
 ix:IX PS ix
theorem WX.y{w:cD}{lo PS:Zf}{U:List Pl}{ix:Ix}(h:WX w lo PS U ix):WY w PS U ix:=⟨h.cg.sw,h.len,h.fl,h.ix⟩
structure FI(s:cH)(PS:Zf)(U:List Pl)(fo:FM)(se:SM)(rs:Zl):Prop where
 oB:(fo.map (·.1)).Nodup
 sub:∀e∈fo,e.1∈U
 ok:∀e∈fo,e.2.2.2.2.1=true→FV s PS e.2.1 e.1.1
 se:se.length≤1000*fo.length
 rs:rs.length≤1000*fo.length
theorem Hk{α:Type}:∀(l L:List α),l.Nodup→(∀x∈l,x∈L)→l.length≤L.length:=by
 classical
 intro l
 induction l with
 |nil=>intro L _ _;exact fR _
 |
  cons a l ih=>
  intro L hn hs
  have ha:=hs a (dK ..)
  have h:=ih (L.erase a) (List.nodup_cons.1 hn).2 fun x hx=>(List.mem_erase_of_ne (fun e:x=a=>(List.nodup_cons.1 hn).1 (e▸hx))).2 (hs x (eH _ hx))
  rw[List.length_erase_of_mem ha] at h
  have hp:=List.length_pos_of_mem ha
  rw[fc]
  omega
theorem FI.len{s:cH}{PS:Zf}{U:List Pl}{fo:FM}{se:SM}{rs:Zl}(h:FI s PS U fo se rs):fo.length≤U.length:=by
 have:=Hk _ U h.oB fun x hx=>by
  obtain⟨e,he,rfl⟩:=List.mem_map.1 hx
  exact h.sub e he
 rwa [iD] at this
theorem F5{α:Type}{kt:Ty}{k:kt.den}{y:α}:∀{es:List (kt.den×α)},es.length≤(bF kt k y es).length
 |[]=>fR _
 |
  e::es=>by
  unfold bF
  split
  ·exact dD _
  ·rw[fc,fc];exact Nat.succ_le_succ F5
theorem FI.put{s:cH}{PS:Zf}{U:List Pl}{fo:FM}{se:SM}{rs:Zl}(h:FI s PS U fo se rs){p:Pl}(hp:p∈U){x:IJ}(hx:x.2.2.2.1=true→FV s PS x.1 p.1){se':SM}{rs':Zl}
 (h1:se'.length≤1000*(bF bS p x fo).length) (h2:rs'.length≤1000*(bF bS p x fo).length):FI s PS U (bF bS p x fo) se' rs' where
 oB:=dP (kt:=bS) rfl h.oB
 sub e he:=by
  rcases fw (kt:=bS) he with rfl|he
  ·exact hp
  ·exact h.sub e he
 ok e he:=by
  rcases fw (kt:=bS) he with rfl|he
  ·exact hx
  ·exact h.ok e he
 se:=h1
 rs:=h2
theorem FI.nil(s:cH)(PS:Zf)(U:List Pl):FI s PS U [] [] []:=
 ⟨List.nodup_nil,fun e he=>(by cases he),fun e he=>(by cases he),dD _,dD _⟩
theorem Bv{w:cD}{PS:Zf}{U:List Pl}{ix:Ix}(hw:WY w PS U ix)(p:Pl)(d k:Int)(b:Bool)(m:DM)(z:Unit)(fo:FM)(se:SM)(rs:Zl):
 ∃L:Zy,gN p w ix d k b m z fo se rs=some (w,ix,d,k,b,m,z,fo,se,rs,(w.1,(L,())))∧L.length≤1000*1000000∧∀f∈L,f.2.1∈PS:=by
 have hB:=hB
 suffices hW:W (gN p w ix d k b m z fo se rs) fun r=>∃L:Zy,r=(w,ix,d,k,b,m,z,fo,se,rs,(w.1,(L,())))∧L.length≤1000*1000000∧∀f∈L,f.2.1∈PS by
  obtain⟨r,e,L,rfl,h⟩:=hW
  exact⟨L,e,h⟩
 have nil:∀f∈([]:Zy),f.2.1∈PS:=fun f hf=>(by cases hf)
 unfold gN
 by_cases h0:0≤p.1
 ·rw[db h0]
  by_cases h1:p.1<(w.1.1.2.2.1.length:Int)
  ·rw[cU h1,aK,aA rfl,aA h0,aA h1]
   have e:(nth aU w.1.1.2.2.1 p.1).2.2.2.2.1=cN w.1.1 p.1:=rfl
   have hF:=hw.fl _ h0 h1
   rw[e]
   refine bY.2 (W.ct (di (L:=kN) rfl (CT (fun r=>∃L:Zy,r=(w,ix,d,k,b,m,z,fo,se,rs,w.1,L)∧L.length≤1000*1000000∧∀f∈L,f.2.1∈PS) fun _=>False) (cN w.1.1 p.1).length (fun c(L:Zy)=>(((cN w.1.1 p.1).length:Int),(c:Int),w,ix,d,k,b,m,z,fo,se,rs,p,w.1,L)) (fun c L=>L.length≤c*1000000∧∀f∈L,f.2.1∈PS) ?step ?stop _ 0 [] (by omega) (by omega) ⟨fR _,nil⟩) (fun r h=>?_) fun r h=>?_)
   case step=>
    rintro rec c L hc ⟨hL,hP⟩ kk
    dsimp only
    have hw2:=nE c (by omega)
    obtain⟨q1,q2⟩:=hw.ix (p.1,(p.2.1,(bB ((bB ((16:Int)*p.2.2.1))+(c:Int)),())))
    rw[db (by omega),aA (by omega),hw2]
    refine kk _ ⟨by rw[eI];omega,fun f hf=>?_⟩
    rcases List.mem_append.1 hf with h|h
    ·exact hP f h
    ·exact q2 f h
   case stop=>
    rintro rec L ⟨hL,hP⟩
    dsimp only
    rw[gY (by omega)]
    exact⟨_,rfl,L,rfl,dp hL (gB _ hF),hP⟩
   ·obtain⟨L,rfl,h⟩:=h
    exact⟨_,rfl,L,rfl,h⟩
   ·exact h.elim
  ·rw[dZ h1];exact⟨_,rfl,[],rfl,fR _,nil⟩
 ·rw[aD (show¬decide ((0:Int)≤p.1)=true by simpa using h0)];exact⟨_,rfl,[],rfl,fR _,nil⟩
def PL(w:cD)(PS:Zf)(U:List Pl)(ix:Ix)(d k:Int)(b:Bool)(m:DM)(z:Unit)(p:Pl)(r:cD×Ix×Int×Int×Bool×DM×Unit×FM×SM×IJ×List Cz):Prop:=
 ∃fo se x rs,r=(w,ix,d,k,b,m,z,fo,se,x,rs)∧FI w.1.1 PS U fo se rs∧(x.2.2.2.1=true→FV w.1.1 PS x.1 p.1)
theorem PG{w:cD}{PS:Zf}{U:List Pl}{ix:Ix}(hw:WY w PS U ix)(p:Pl)(d k:Int)(b:Bool)(m:DM)(z:Unit){fo:FM}{se:SM}{rs:Zl}(h:FI w.1.1 PS U fo se rs)(hp:de bS p fo=false)(hU:p∈U)(hP:p.2.1∈PS):
 ∃(L:Zy)(y:Bool)(x:yx)(n:Zl)(se':SM)(rs':Zl),gN p w ix d k b m z fo se rs=some (w,ix,d,k,b,m,z,fo,se,rs,(w.1,(L,())))∧f77 (w.1,(L,())) p.1 p.2.1 p.2.2.1 d k=some (y,x,n)∧
  iu rs n w ix d k b m z fo se=some (n,w,ix,d,k,b,m,z,fo,se',rs')∧fo.length+1≤aG∧
  PL w PS U ix d k b m z p (w,ix,d,k,b,m,z,bF bS p (x,((0:Int),(([]:ZG),(y,())))) fo,se',(x,((0:Int),(([]:ZG),(y,())))),rs'):=by
 have hB:=hB
 obtain⟨L,e1,hL,hPS⟩:=Bv hw p d k b m z fo se rs
 obtain⟨⟨y,x,n⟩,e2,hn,hx⟩:=J0 (PS:=PS) (w.1,(L,())) hw.sw.nb hw.sw.rules hw.fl (by show L.length≤aG;omega) hPS p.1 p.2.1 p.2.2.1 d k hP
 dsimp only at hn hx
 have hlen:=h.len
 have h1:=hw.len
 have h2:=h.se
 have h3:=h.rs
 obtain⟨se',rs',e3,q1,q2⟩:=rD n se rs (by omega) (by omega)
 refine⟨L,y,x,n,se',rs',e1,e2,?_,by omega,?_⟩
 ·unfold iu
  rw[aA (by omega),e3]
  rfl
 ·have hnew:(bF bS p (x,((0:Int),(([]:ZG),(y,())))) fo).length=fo.length+1:=by
   rw[kO (kt:=bS) rfl (fun hm=>by rw[(eR (kt:=bS) rfl).2 hm] at hp;cases hp),eI,cY]
  exact⟨_,_,_,_,rfl,h.put hU hx (by omega) (by omega),hx⟩
abbrev Q0:=Pl×cD×Ix×Int×Int×Bool×DM×Unit×FM×SM×List Cz×Unit→Option (cD×Ix×Int×Int×Bool×DM×Unit×FM×SM×IJ×List Cz)
abbrev Q1:=iA×Int×List yx×cD×Ix×Int×Int×Bool×DM×Unit×FM×SM×List Cz×Unit→Option (Bool×iA×Int×cD×Ix×Int×Int×Bool×DM×Unit×FM×SM×List yx×List Cz)
theorem F6{s:cH}{PS:Zf}{u:iA}{l:ZG}(hN:NB s)(hL:LI s PS u l)(hl:l.length=u.2.2.1.length){t:gv}(ht:wK (cR s u) t)(h1:t.2.2.1≠-1):
 ∃n,∀(w:cD),w.1.1=s→∀ix d k b m z fo se rs,pF t u w ix d k b m z l fo se rs=some (n,u,w,ix,d,k,b,m,z,l,fo,se,rs):=by
 rcases ht with hi|hi
 ·obtain⟨v,hv,_⟩:=Oe hL hl (Or.inl hi)
  obtain⟨p,hp⟩:=JZ s hN ([],([],((nth aL u.2.2.1 t.2.2.1).2.2.1,(t.2.2.2.1,())))) v
  refine⟨p.1,fun w hw ix d k b m z fo se rs=>?_⟩
  have hp':f245 w.1.1 ([],([],((nth aL u.2.2.1 t.2.2.1).2.2.1,(t.2.2.2.1,())))) v=some p:=by rw[hw];exact hp
  unfold pF
  rw[aA hi.v0,aA (show t.2.2.1<(u.2.2.1.length:Int) from hi.v1),hv,aK,hp']
  rfl
 ·exact absurd hi h1
theorem RZ{s:cH}{PS:Zf}{u:iA}{l:ZG}(hN:NB s)(hw:u.2.2.2.1.length≤aG)(hR:RK (cR s u))(hL:LI s PS u l)(hl:l.length=u.2.2.1.length):
 ∃y,∀(w:cD),w.1.1=s→∀ix d k b m z fo se rs,nD u w ix d k b m z l fo se rs=some (y,w,ix,d,k,b,m,z,l,fo,se,rs):=by
 have hB:=hB
 have key:∀n i:Nat,u.2.2.2.1.length -i<n→i≤u.2.2.2.1.length→∃y:Bool,∀(w:cD),w.1.1=s→∀ix d k b m z fo se rs,
  gM n (u.2.2.2.1,(u.2.2.2.1.length:Int),(i:Int),w,ix,d,k,b,m,z,l,fo,se,rs,u)=some (if y=true then .brk (w,ix,d,k,b,m,z,l,fo,se,rs) else .ret (false,w,ix,d,k,b,m,z,l,fo,se,rs)):=by
  intro n
  induction n with
  |zero=>intro i h;omega
  |
   succ n ih=>
   intro i hn hi
   by_cases h:i<u.2.2.2.1.length
   ·have hm:wK (cR s u) (nth aQ u.2.2.2.1 (i:Int)).2.1∧wK (cR s u) (nth aQ u.2.2.2.1 (i:Int)).2.2.1:=hR.wh _ (dw (t:=aQ) (l:=u.2.2.2.1) (eB i) (show(i:Int)<(u.2.2.2.1.length:Int) by omega))
    obtain⟨y,hy⟩:=ih (i+1) (by omega) (by omega)
    have hw2:=nE i (by omega)
    have hi1:(i:Int)<(u.2.2.2.1.length:Int):=by omega
    generalize ha:nth aQ u.2.2.2.1 (i:Int)=a at hm
    obtain⟨v1,e1,_⟩:=Oe hL hl hm.1
    obtain⟨v2,e2,_⟩:=Oe hL hl hm.2
    have fin:∀(p q:Int)(c:Bool),f246 a.1 p q=some c→∀(w:cD) ix d k b m z fo se rs(rec:(Zz)×Int×Int×cD×Ix×Int×Int×Bool×DM×Unit×(ZG)×FM×SM×(Zl)×iA→Option (cV (cD×Ix×Int×Int×Bool×DM×Unit×(ZG)×FM×SM×(Zl)) (Bool×cD×Ix×Int×Int×Bool×DM×Unit×(ZG)×FM×SM×(Zl)))),
     rec (u.2.2.2.1,(u.2.2.2.1.length:Int),((i+1:Nat):Int),w,ix,d,k,b,m,z,l,fo,se,rs,u)=some (if y=true then .brk (w,ix,d,k,b,m,z,l,fo,se,rs) else .ret (false,w,ix,d,k,b,m,z,l,fo,se,rs))→
     (Option.bind (f246 a.1 p q) fun y10=>if(!y10)=true then(cw (some (false,w,ix,d,k,b,m,z,l,fo,se,rs))) else(rec (u.2.2.2.1,(u.2.2.2.1.length:Int),bB ((i:Int)+(1:Int)),w,ix,d,k,b,m,z,l,fo,se,rs,u)))=some (if(c&&y)=true then .brk (w,ix,d,k,b,m,z,l,fo,se,rs) else .ret (false,w,ix,d,k,b,m,z,l,fo,se,rs)):=by
     intro p q c hc w ix d k b m z fo se rs rec hr
     rw[hc,aK]
     cases c with
     |false=>rfl
     |true=>rw[aD (by decide),hw2,hr];rfl
    have hi0:=eB i
    by_cases n1:a.2.1.2.2.1= -1
    ·obtain⟨c,hc⟩:=ni a.1 v1 v2
     refine⟨c&&y,fun w hws ix d k b m z fo se rs=>?_⟩
     have hyw:=hy w hws ix d k b m z fo se rs
     unfold gM at hyw ⊢
     rw[aO]
     generalize aM _ n=rec at hyw ⊢
     dsimp only
     rw[db hi1,aA hi0,aA hi1,ha,e1,aK,e2,aK,aD (show¬(!decide (a.2.1.2.2.1=(-1:Int)))=true by simpa using n1)]
     exact fin v1 v2 c hc w ix d k b m z fo se rs rec hyw
    ·by_cases n2:a.2.2.1.2.2.1= -1
     ·obtain⟨c,hc⟩:=ni a.1 v1 v2
      refine⟨c&&y,fun w hws ix d k b m z fo se rs=>?_⟩
      have hyw:=hy w hws ix d k b m z fo se rs
      unfold gM at hyw ⊢
      rw[aO]
      generalize aM _ n=rec at hyw ⊢
      dsimp only
      rw[db hi1,aA hi0,aA hi1,ha,e1,aK,e2,aK,aA (show(!decide (a.2.1.2.2.1=(-1:Int)))=true by simpa using n1),aK,aD (show¬(!decide (a.2.2.1.2.2.1=(-1:Int)))=true by simpa using n2)]
      exact fin v1 v2 c hc w ix d k b m z fo se rs rec hyw
     ·obtain⟨p,hp⟩:=F6 hN hL hl hm.1 n1
      obtain⟨q,hq⟩:=F6 hN hL hl hm.2 n2
      obtain⟨c,hc⟩:=ni a.1 p q
      refine⟨c&&y,fun w hws ix d k b m z fo se rs=>?_⟩
      have hyw:=hy w hws ix d k b m z fo se rs
      unfold gM at hyw ⊢
      rw[aO]
      generalize aM _ n=rec at hyw ⊢
      dsimp only
      rw[db hi1,aA hi0,aA hi1,ha,e1,aK,e2,aK,aA (show(!decide (a.2.1.2.2.1=(-1:Int)))=true by simpa using n1),aK,aA (show(!decide (a.2.2.1.2.2.1=(-1:Int)))=true by simpa using n2),hp w hws ix d k b m z fo se rs,aK]
      dsimp only
      rw[hq w hws ix d k b m z fo se rs,aK]
      exact fin p q c hc w ix d k b m z fo se rs rec hyw
   ·refine⟨true,fun w hws ix d k b m z fo se rs=>?_⟩
    unfold gM
    rw[aO]
    dsimp only
    rw[gY (by omega)]
    rfl
 obtain⟨y,hy⟩:=key (Int.toNat (List.length u.2.2.2.1:Int)+1) 0 (by omega) (by omega)
 refine⟨y,fun w hws ix d k b m z fo se rs=>?_⟩
 have hyw:gM (Int.toNat (List.length u.2.2.2.1:Int)+1) (u.2.2.2.1,(List.length u.2.2.2.1:Int),(0:Int),w,ix,d,k,b,m,z,l,fo,se,rs,u)=_:=hy w hws ix d k b m z fo se rs
 unfold nD
 rw[hyw]
 cases y<;>rfl
theorem Og{s:cH}{PS:Zf}{u:iA}{l:ZG}(hw:u.2.2.2.2.1.length≤aG)(hR:RK (cR s u))(hL:LI s PS u l)(hl:l.length=u.2.2.1.length)(hf:1≤(cN s u.2.1).length)(hf2:(cN s u.2.1).length≤1000)(p:Int)(hp:p∈PS)(h0:(0:Int)∈PS)(hc:∀t∈u.2.2.2.2.1,t.2.2.1.2.2.2.2.1∈PS):
 ∃x,FV s PS x u.2.1∧∀(w:cD),w.1.1=s→∀ix d k b m z fo se rs,nG u p l w ix d k b m z fo se rs=some (w,ix,d,k,b,m,z,fo,se,rs,x):=by
 have hB:=hB
 have key:∀(n i:Nat)(v:Zf),u.2.2.2.2.1.length -i<n→i≤u.2.2.2.2.1.length→v.length=(cN s u.2.1).length→(∀x∈v,x∈PS)→∃v',v'.length=(cN s u.2.1).length∧(∀x∈v',x∈PS)∧∀(w:cD) ix d k b m z fo se rs,
  jL n (p,l,u.2.2.2.2.1,(u.2.2.2.2.1.length:Int),(i:Int),w,ix,d,k,b,m,z,fo,se,rs,u,(0:Int),(0:Int),(0:Int),v)=some (.brk (p,w,ix,d,k,b,m,z,fo,se,rs,u,(0:Int),(0:Int),(0:Int),v')):=by
  intro n
  induction n with
  |zero=>intro i v h;omega
  |
   succ n ih=>
   intro i v hn hi hv hP
   by_cases h:i<u.2.2.2.2.1.length
   ·have hi1:(i:Int)<(u.2.2.2.2.1.length:Int):=by omega
    have hi0:=eB i
    have hm:=dw (t:=aZ) (l:=u.2.2.2.2.1) hi0 hi1
    have hw2:=nE i (by omega)
    have hc2:=hc _ hm
    obtain⟨hi,ht⟩:=hR.st _ hm
    obtain⟨y,ey,hy⟩:=Oe hL hl ht
    have hb:(nth aZ u.2.2.2.2.1 (i:Int)).2.1<(v.length:Int):=by rw[hv];exact hi.b1
    obtain⟨v',q1,q2,q3⟩:=ih (i+1) (List.set v (Int.toNat (nth aZ u.2.2.2.2.1 (i:Int)).2.1) y) (by omega) (by omega) (by rw[bU];exact hv) (fun x hx=>by
     rcases List.mem_or_eq_of_mem_set hx with h|rfl
     ·exact hP _ h
     ·rcases hy with h|⟨_,rfl⟩
      ·exact h
      ·exact hc2)
    refine⟨v',q1,q2,fun w ix d k b m z fo se rs=>?_⟩
    have hyw:=q3 w ix d k b m z fo se rs
    unfold jL at hyw ⊢
    rw[aO]
    generalize aM _ n=rec at hyw ⊢
    dsimp only
    rw[db hi1,aA hi0,aA hi1,ey,aK,aA hi.b0,aA hb,hw2]
    exact hyw
   ·refine⟨v,hv,hP,fun w ix d k b m z fo se rs=>?_⟩
    unfold jL
    rw[aO]
    dsimp only
    rw[gY (by omega)]
 obtain⟨v',q1,q2,q3⟩:=key (Int.toNat (List.length u.2.2.2.2.1:Int)+1) 0 (List.set (List.replicate (Int.toNat ((cN s u.2.1).length:Int)) (0:Int)) (Int.toNat (0:Int)) p) (by omega) (by omega) (by rw[bU,l0,fb]) (fun x hx=>by
  rcases List.mem_or_eq_of_mem_set hx with h|rfl
  ·rw[List.mem_replicate] at h
   rw[h.2];exact h0
  ·exact hp)
 refine⟨(u.2.1,(p,((0:Int),(v',())))),⟨q1,q2⟩,fun w hws ix d k b m z fo se rs=>?_⟩
 subst hws
 have e:(nth aU w.1.1.2.2.1 u.2.1).2.2.2.2.1=cN w.1.1 u.2.1:=rfl
 have q:=q3 w ix d k b m z fo se rs
 have q':jL (Int.toNat (List.length u.2.2.2.2.1:Int)+1) (p,l,u.2.2.2.2.1,(List.length u.2.2.2.2.1:Int),(0:Int),w,ix,d,k,b,m,z,fo,se,rs,u,(0:Int),(0:Int),(0:Int),List.set (List.replicate (Int.toNat ((cN w.1.1 u.2.1).length:Int)) (0:Int)) (Int.toNat (0:Int)) p)=_:=q
 unfold nG
 rw[aA hR.h0,aA hR.h1,e,fP _,aA (mV _),aA (by omega),aA (by rw[l0,fb];omega),q',aJ]
def iS(s:cH)(ix:Ix)(p:Pl):Zy:=if 0≤p.1∧p.1<(s.2.2.1.length:Int) then(List.range (cN s p.1).length).flatMap fun(c:Nat)=>bE bS (.slice 64 dq) (p.1,(p.2.1,(bB ((bB ((16:Int)*p.2.2.1))+(c:Int)),()))) (bK ix) else[]
theorem F7{w:cD}{PS:Zf}{U:List Pl}{ix:Ix}(hw:WY w PS U ix)(p:Pl)(d k:Int)(b:Bool)(m:DM)(z:Unit)(fo:FM)(se:SM)(rs:Zl):
 gN p w ix d k b m z fo se rs=some (w,ix,d,k,b,m,z,fo,se,rs,(w.1,(iS w.1.1 ix p,()))):=by
 have hB:=hB
 suffices hW:W (gN p w ix d k b m z fo se rs) fun r=>r=(w,ix,d,k,b,m,z,fo,se,rs,(w.1,(iS w.1.1 ix p,()))) by
  obtain⟨r,e,rfl⟩:=hW
  exact e
 unfold gN
 by_cases h0:0≤p.1
 ·rw[db h0]
  by_cases h1:p.1<(w.1.1.2.2.1.length:Int)
  ·rw[cU h1,aK,aA rfl,aA h0,aA h1]
   have e:(nth aU w.1.1.2.2.1 p.1).2.2.2.2.1=cN w.1.1 p.1:=rfl
   have hF:=hw.fl _ h0 h1
   rw[e]
   have ea:iS w.1.1 ix p=(List.range (cN w.1.1 p.1).length).flatMap fun(c:Nat)=>bE bS (.slice 64 dq) (p.1,(p.2.1,(bB ((bB ((16:Int)*p.2.2.1))+(c:Int)),()))) (bK ix):=aA ⟨h0,h1⟩
   rw[ea]
   refine bY.2 (W.ct (di (L:=kN) rfl (CT (fun r=>r=(w,ix,d,k,b,m,z,fo,se,rs,w.1,(List.range (cN w.1.1 p.1).length).flatMap fun(c:Nat)=>bE bS (.slice 64 dq) (p.1,(p.2.1,(bB ((bB ((16:Int)*p.2.2.1))+(c:Int)),()))) (bK ix))) fun _=>False) (cN w.1.1 p.1).length (fun c(L:Zy)=>(((cN w.1.1 p.1).length:Int),(c:Int),w,ix,d,k,b,m,z,fo,se,rs,p,w.1,L)) (fun c L=>L.length≤c*1000000∧L=(List.range c).flatMap fun(c:Nat)=>bE bS (.slice 64 dq) (p.1,(p.2.1,(bB ((bB ((16:Int)*p.2.2.1))+(c:Int)),()))) (bK ix)) ?step ?stop _ 0 [] (by omega) (by omega) ⟨fR _,rfl⟩) (fun r h=>?_) fun r h=>h.elim)
   case step=>
    rintro rec c L hc ⟨hL,hP⟩ kk
    dsimp only
    have hw2:=nE c (by omega)
    obtain⟨q1,q2⟩:=hw.ix (p.1,(p.2.1,(bB ((bB ((16:Int)*p.2.2.1))+(c:Int)),())))
    rw[db (by omega),aA (by omega),hw2]
    refine kk _ ⟨by rw[eI];omega,?_⟩
    rw[List.range_succ,List.flatMap_append,←hP,List.flatMap_cons,List.flatMap_nil,ik]
   case stop=>
    rintro rec L ⟨hL,hP⟩
    dsimp only
    rw[gY (by omega),hP]
    exact⟨_,rfl,rfl⟩
   ·subst h
    exact⟨_,rfl,rfl⟩
  ·have ea:iS w.1.1 ix p= []:=aD fun h=>h1 h.2
   rw[dZ h1,ea];exact⟨_,rfl,rfl⟩
 ·have ea:iS w.1.1 ix p= []:=aD fun h=>h0 h.1
  rw[aD (show¬decide ((0:Int)≤p.1)=true by simpa using h0),ea];exact⟨_,rfl,rfl⟩
structure T2(w1:cD)(ix1:Ix)(k1:Int)(w2:cD)(ix2:Ix)(k2:Int)(lo PS:Zf)(U:List Pl)(d:Int)(Gd:Cz→Prop):Prop where
 h1:WX w1 lo PS U ix1
 h2:WX w2 lo PS U ix2
 tb:w2.1=w1.1
 rd:∀(p:Pl) r,f77 (w1.1,(iS w1.1.1 ix1 p,())) p.1 p.2.1 p.2.2.1 d k1=some r→(∀q∈r.2.2,Gd q)→f77 (w2.1,(iS w2.1.1 ix2 p,())) p.1 p.2.1 p.2.2.1 d k2=some r
structure FT(b:cH):Prop where
 dT:b.2.2.1.length≤6
 rules:b.2.2.2.1.length≤4
 fields:∀x∈b.2.2.1,x.2.2.2.2.1.length≤6
 adN:∀x∈b.2.2.2.1,x.2.2.2.2.1.length≤6
theorem Oh(b:cH)(h:SS b):∃r,f47 b=some r∧(r=true→FT b):=by
 have hB:=hB
 have h3:=h.dT
 have h4:=h.rules
 have h5:=h.je
 have h6:=h.fu
 suffices hW:W (f47 b) fun r=>r=true→FT b by
  obtain⟨r,e,h⟩:=hW
  exact⟨r,e,h⟩
 have nb:∀n:Nat,n≤aG→n -0<gn:=fun n hn=>by show _<18446744073709551616;omega
 have no:(false:Bool)=true→FT b:=fun h=>(by cases h)
 unfold f47
 refine bY.2 (W.ct (di (L:=IN) rfl (CT (fun d=>d=b∧∀j(hj:j<b.2.2.1.length),b.2.2.1[j].2.2.2.2.1.length≤6) fun r=>r=false) b.2.2.1.length (fun c(_:Unit)=>((c:Int),b)) (fun c _=>∀j(hj:j<b.2.2.1.length),j<c→b.2.2.1[j].2.2.2.2.1.length≤6) ?step ?stop gn 0 () (nb _ h3) (by omega) (fun j _ h=>absurd h (Nat.not_lt_zero _))) (fun d hd=>?_) fun r hr=>by subst hr;exact no)
 case step=>
  intro rec c _ hc hI kk
  dsimp only
  have hw2:=nE c (by omega)
  have hcc:(c:Int)<(b.2.2.1.length:Int):=by omega
  rw[db hcc,fP c,aA hcc,ew (t:=aU) hc]
  by_cases a1:(6:Int)<(b.2.2.1[c].2.2.2.2.1.length:Int)
  ·rw[db a1];exact⟨_,rfl,rfl⟩
  ·rw[aD (show¬decide ((6:Int)<(b.2.2.1[c].2.2.2.2.1.length:Int))=true by simpa using a1),fP c,aA hcc,aK]
   split
   ·exact⟨_,rfl,rfl⟩
   ·rw[hw2]
    refine kk () fun j hj hjc=>?_
    by_cases e:j=c
    ·subst e;omega
    ·exact hI j hj (by omega)
 case stop=>
  intro rec _ hI
  dsimp only
  rw[gY (by omega)]
  exact⟨_,rfl,rfl,fun j hj=>hI j hj hj⟩
 obtain⟨rfl,hf⟩:=hd
 refine bY.2 (W.ct (di (L:=IP) rfl (CT (fun d'=>d'=d∧∀j(hj:j<d.2.2.2.1.length),d.2.2.2.1[j].2.2.2.2.1.length≤6) fun r=>r=false) d.2.2.2.1.length (fun c(_:Unit)=>((c:Int),d)) (fun c _=>∀j(hj:j<d.2.2.2.1.length),j<c→d.2.2.2.1[j].2.2.2.2.1.length≤6) ?step ?stop gn 0 () (nb _ h4) (by omega) (fun j _ h=>absurd h (Nat.not_lt_zero _))) (fun d' hd=>?_) fun r hr=>by subst hr;exact no)
 case step=>
  intro rec c _ hc hI kk
  dsimp only
  have hw2:=nE c (by omega)
  have hcc:(c:Int)<(d.2.2.2.1.length:Int):=by omega
  rw[db hcc,fP c,aA hcc,ew (t:=bQ) hc]
  by_cases a1:(4:Int)<(d.2.2.2.1[c].2.2.1.length:Int)
  ·rw[db a1];exact⟨_,rfl,rfl⟩
  ·rw[aD (show¬decide ((4:Int)<(d.2.2.2.1[c].2.2.1.length:Int))=true by simpa using a1),fP c,aA hcc]
   by_cases a2:(5:Int)<(d.2.2.2.1[c].2.2.2.1.length:Int)
   ·rw[db a2];exact⟨_,rfl,rfl⟩
   ·rw[aD (show¬decide ((5:Int)<(d.2.2.2.1[c].2.2.2.1.length:Int))=true by simpa using a2),fP c,aA hcc,aK]
    by_cases a3:(6:Int)<(d.2.2.2.1[c].2.2.2.2.1.length:Int)
    ·rw[db a3];exact⟨_,rfl,rfl⟩
    ·rw[aD (show¬decide ((6:Int)<(d.2.2.2.1[c].2.2.2.2.1.length:Int))=true by simpa using a3),hw2]
     refine kk () fun j hj hjc=>?_
     by_cases e:j=c
     ·subst e;omega
     ·exact hI j hj (by omega)
 case stop=>
  intro rec _ hI
  dsimp only
  rw[gY (by omega)]
  exact⟨_,rfl,rfl,fun j hj=>hI j hj hj⟩
 obtain⟨rfl,hs⟩:=hd
 refine bY.2 (W.ct (di (L:=EY) rfl (CT (fun d=>d=d') fun r=>r=false) d'.2.2.2.2.1.length (fun c(_:Unit)=>((c:Int),d')) (fun _ _=>True) ?step ?stop gn 0 () (nb _ h5) (by omega) trivial) (fun d hd=>?_) fun r hr=>by subst hr;exact no)
 case step=>
  intro rec c _ hc _ kk
  dsimp only
  have hw2:=nE c (by omega)
  have hcc:(c:Int)<(d'.2.2.2.2.1.length:Int):=by omega
  rw[db hcc,fP c,aA hcc]
  split
  ·exact⟨_,rfl,rfl⟩
  ·rw[hw2];exact kk () trivial
 case stop=>
  intro rec _ _
  dsimp only
  rw[gY (by omega)]
  exact⟨_,rfl,rfl⟩
 subst hd
 refine bY.2 (W.ct (di (L:=EZ) rfl (CT (fun d'=>d'=d) fun r=>r=false) d.2.2.2.2.2.1.length (fun c(_:Unit)=>((c:Int),d)) (fun _ _=>True) ?step ?stop gn 0 () (nb _ h6) (by omega) trivial) (fun d' hd=>?_) fun r hr=>by subst hr;exact no)
 case step=>
  intro rec c _ hc _ kk
  dsimp only
  have hw2:=nE c (by omega)
  have hcc:(c:Int)<(d.2.2.2.2.2.1.length:Int):=by omega
  rw[db hcc,fP c,aA hcc]
  split
  ·exact⟨_,rfl,rfl⟩
  ·rw[hw2];exact kk () trivial
 case stop=>
  intro rec _ _
  dsimp only
  rw[gY (by omega)]
  exact⟨_,rfl,rfl⟩
 subst hd
 by_cases c1:(d'.1.length:Int)≤4
 ·rw[db c1]
  by_cases c2:(d'.2.1.length:Int)≤5
  ·rw[db c2]
   by_cases c3:(d'.2.2.1.length:Int)≤6
   ·rw[db c3]
    by_cases c4:(d'.2.2.2.1.length:Int)≤4
    ·rw[db c4]
     have gL:FT d':=⟨by omega,by omega,fun x hx=>by
      obtain⟨j,hj,rfl⟩:=kV hx
      exact hf j hj,fun x hx=>by
      obtain⟨j,hj,rfl⟩:=kV hx
      exact hs j hj⟩
     split
     ·exact⟨_,rfl,fun _=>gL⟩
     ·exact⟨_,rfl,no⟩
    ·rw[aD (show¬decide ((d'.2.2.2.1.length:Int)≤4)=true by simpa using c4)];exact⟨_,rfl,no⟩
   ·rw[aD (show¬decide ((d'.2.2.1.length:Int)≤6)=true by simpa using c3)];exact⟨_,rfl,no⟩
  ·rw[aD (show¬decide ((d'.2.1.length:Int)≤5)=true by simpa using c2)];exact⟨_,rfl,no⟩
 ·rw[aD (show¬decide ((d'.1.length:Int)≤4)=true by simpa using c1)];exact⟨_,rfl,no⟩
theorem Oi(w:cD)(h:SS w.1.1):∃r,f14 w=some r∧(r=true→FT w.1.1∧w.2.1.length≤60):=by
 obtain⟨r,e,hr⟩:=Oh w.1.1 h
 unfold f14 f29
 rw[e,aK]
 cases r with
 |false=>exact⟨false,rfl,fun h=>(by cases h)⟩
 |
  true=>
  have ht:=hr rfl
  rw[aA rfl,aK,aK]
  split
  ·exact⟨_,rfl,fun h=>⟨ht,by have h:(w.2.1.length:Int)≤60:=ki h;omega⟩⟩
  ·exact⟨false,rfl,fun h=>(by cases h)⟩
theorem Oj(w:cD)(h:SS w.1.1):∃r,f5 w=some r∧(r=true→FT w.1.1∧w.2.1.length≤60):=by
 have hB:=hB
 have h4:=h.rules
 suffices hW:W (f5 w) fun r=>r=true→FT w.1.1∧w.2.1.length≤60 by
  obtain⟨r,e,h⟩:=hW
  exact⟨r,e,h⟩
 have no:(false:Bool)=true→FT w.1.1∧w.2.1.length≤60:=fun h=>(by cases h)
 unfold f5
 refine bY.2 (W.ct (di (L:=Pw) rfl (CT (fun d=>d=(w,w.1.1)) fun r=>r=false) w.1.1.2.2.2.1.length (fun c(_:Unit)=>((c:Int),w,w.1.1)) (fun _ _=>True) ?step ?stop gn 0 () (by show _<18446744073709551616;omega) (by omega) trivial) (fun d hd=>?_) fun r hr=>by subst hr;exact no)
 case step=>
  intro rec c _ hc _ kk
  dsimp only
  have hw2:=nE c (by omega)
  have hcc:(c:Int)<(w.1.1.2.2.2.1.length:Int):=by omega
  rw[db hcc,fP c,aA hcc]
  split
  ·exact⟨_,rfl,rfl⟩
  ·rw[hw2];exact kk () trivial
 case stop=>
  intro rec _ _
  dsimp only
  rw[gY (by omega)]
  exact⟨_,rfl,rfl⟩
 subst hd
 dsimp only
 obtain⟨r,e,hr⟩:=Oi w h
 rw[e,aK]
 cases r with
 |false=>exact⟨false,rfl,no⟩
 |
  true=>
  have ht:=hr rfl
  rw[aA rfl]
  split
  ·exact⟨_,rfl,fun _=>ht⟩
  ·exact⟨false,rfl,no⟩
def lQ(k:j7)(l:Zy):Zy:=l.filter fun f=>aY bS f.1 k
theorem Hl(k:j7)(l:Zy)(x:nV):lQ k (l++[x])=lQ k l++if aY bS x.1 k=true then[x] else[]:=by
 unfold lQ
 rw[List.filter_append,vq]
 rfl
def vS(l:Zi):Zu:=l.foldl (fun m u=>bF (.int .i64) u.2.1 true m) []
theorem Hm(l:Zi)(u:iA):vS (l++[u])=bF (.int .i64) u.2.1 true (vS l):=by
 unfold vS
 rw[List.foldl_append]
 rfl
theorem xL:∀(l:Zi)(m:Zu),(l.foldl (fun m u=>bF (.int .i64) u.2.1 true m) m).length≤m.length+l.length
 |[],m=>dD _
 |
  u::l,m=>by
  have h:=xL l (bF (.int .i64) u.2.1 true m)
  have h2:(bF (.int .i64) u.2.1 true m).length≤m.length+1:=eM (kt:=.int .i64)
  rw[List.foldl_cons,fc]
  omega
theorem J1(l:Zi):(vS l).length≤l.length:=by
 have h:=xL l []
 rw[qf,dY] at h
 exact h
theorem xM(a:Int):∀(l:Zi)(m:Zu),bE (.int .i64) .bool a (l.foldl (fun m u=>bF (.int .i64) u.2.1 true m) m)=true→bE (.int .i64) .bool a m=true∨∃u∈l,u.2.1=a
 |[],m,h=>Or.inl h
 |
  u::l,m,h=>by
  rw[List.foldl_cons] at h
  rcases xM a l _ h with h|⟨v,hv,e⟩
  ·by_cases e:a=u.2.1
   ·exact Or.inr ⟨u,dK ..,e.symm⟩
   ·rw[fg (kt:=.int .i64) (vt:=.bool) rfl e] at h
    exact Or.inl h
  ·exact Or.inr ⟨v,eH _ hv,e⟩
theorem J2(a:Int)(l:Zi)(h:bE (.int .i64) .bool a (vS l)=true):∃u∈l,u.2.1=a:=(xM a l [] h).elim (fun h=>(by cases h)) id
theorem xN{α:Type}(l:List α)(c:Nat)(h:c<l.length):l.take (c+1)=l.take c++[l[c]]:=List.take_succ_eq_append_getElem h
theorem R0(w:cD)(hf:w.2.1.length≤1000000)(hr:w.1.1.2.2.2.1.length≤aG)(d k:Int)(v:Bool):
 ∃ix:List (j7×Zy),qV w d k v=some (w,some ix,d,k,v,some (vS w.1.1.2.2.2.1),(),[],[],[])∧∀key,bE bS (.slice 64 dq) key ix=lQ key w.2.1:=by
 have hB:=hB
 suffices hW:W (qV w d k v) fun r=>∃ix:List (j7×Zy),r=(w,some ix,d,k,v,some (vS w.1.1.2.2.2.1),(),[],[],[])∧∀key,bE bS (.slice 64 dq) key ix=lQ key w.2.1 by
  obtain⟨r,e,ix,rfl,h⟩:=hW
  exact⟨ix,e,h⟩
 unfold qV
 refine bY.2 (W.ct (di (L:=xh) rfl (CT (fun r=>∃ix:List (j7×Zy),r=(d,k,w,ix,([]:Zu),w,(0:Int),(0:Int),v)∧∀key,bE bS (.slice 64 dq) key ix=lQ key w.2.1) fun _=>False) w.2.1.length (fun c(ix:List (j7×Zy))=>(d,k,w.2.1,(w.2.1.length:Int),(c:Int),w,ix,([]:Zu),w,(0:Int),(0:Int),v)) (fun c ix=>ix.length≤2*c∧∀key,bE bS (.slice 64 dq) key ix=lQ key (w.2.1.take c)) ?step ?stop _ 0 [] (by omega) (by omega) ⟨fR _,fun key=>rfl⟩) (fun r hr=>?_) fun r hr=>hr.elim)
 case step=>
  rintro rec c ix hc ⟨hl,hI⟩ kk
  dsimp only
  have hw2:=nE c (by omega)
  have hcc:(c:Int)<(w.2.1.length:Int):=by omega
  rw[db hcc,fP c,aA hcc,ew (t:=dq) hc]
  have ht:=xN w.2.1 c hc
  generalize w.2.1[c]=x at ht ⊢
  have h1:(bE bS (.slice 64 dq) x.1 ix).length≤w.2.1.length:=by
   rw[hI x.1]
   exact dp (xA ..) (by rw[mS];omega)
  rw[aA ((iG bS x.1 x.1).2 rfl),aA (show ix.length+1≤aG by omega),aA (show((bE bS (.slice 64 dq) x.1 ix).length+List.length [x])*64≤aG by rw[cY];omega),hw2]
  refine kk _ ⟨?_,fun key=>?_⟩
  ·have q1:(bF bS x.1 (Ty.aC (.slice 64 dq)) ix).length≤ix.length+1:=eM (kt:=bS)
   have q2:(bF bS x.1 (bE bS (.slice 64 dq) x.1 ix++[x]) (bF bS x.1 (Ty.aC (.slice 64 dq)) ix)).length≤(bF bS x.1 (Ty.aC (.slice 64 dq)) ix).length+1:=eM (kt:=bS)
   omega
  ·rw[ht,Hl]
   by_cases e:key=x.1
   ·subst e
    rw[fO (kt:=bS) (vt:=.slice 64 dq) rfl,hI,aA ((iG bS x.1 x.1).2 rfl)]
   ·rw[fg (kt:=bS) (vt:=.slice 64 dq) rfl e,fg (kt:=bS) (vt:=.slice 64 dq) rfl e,hI,aD (fun h=>e ((iG bS x.1 key).1 h).symm),ik]
 case stop=>
  rintro rec ix ⟨hl,hI⟩
  dsimp only
  rw[gY (by omega)]
  rw[List.take_length] at hI
  exact⟨_,rfl,ix,rfl,hI⟩
 obtain⟨ix,rfl,hI⟩:=hr
 dsimp only
 refine bY.2 (W.ct (di (L:=xi) rfl (CT (fun r=>r=(d,k,ix,vS w.1.1.2.2.2.1,w,(0:Int),(0:Int),v)) fun _=>False) w.1.1.2.2.2.1.length (fun c(m:Zu)=>(d,k,w.1.1.2.2.2.1,(w.1.1.2.2.2.1.length:Int),(c:Int),ix,m,w,(0:Int),(0:Int),v)) (fun c m=>m=vS (w.1.1.2.2.2.1.take c)) ?step ?stop _ 0 [] (by omega) (by omega) rfl) (fun r hr=>?_) fun r hr=>hr.elim)
 case step=>
  rintro rec c m hc rfl kk
  dsimp only
  have hw2:=nE c (by omega)
  have hcc:(c:Int)<(w.1.1.2.2.2.1.length:Int):=by omega
  have hl:=J1 (w.1.1.2.2.2.1.take c)
  rw[mS] at hl
  rw[db hcc,fP c,aA hcc,aA (show(vS (w.1.1.2.2.2.1.take c)).length+1≤aG by omega),hw2,ew (t:=bQ) hc]
  exact kk _ (by rw[xN _ _ hc,Hm])
 case stop=>
  rintro rec m rfl
  dsimp only
  rw[gY (by omega),List.take_length]
  exact⟨_,rfl,rfl⟩
 subst hr
 exact⟨_,rfl,ix,rfl,hI⟩
theorem tN{α β:Type}{f:α→List β}{n:Nat}:∀{l:List α},(∀x∈l,(f x).length≤n)→(l.flatMap f).length≤l.length*n
 |[],_=>fR _
 |
  x::l,h=>by
  have h1:=h x (dK ..)
  have h2:=tN (f:=f) (n:=n) (l:=l) fun y hy=>h y (eH _ hy)
  rw[List.flatMap_cons,eI,fc,fQ]
  omega
def Bw(w:cD)(p:Int):Zf:=0::p::(w.2.1.map (fun f=>f.2.1)++w.1.1.2.2.2.1.flatMap fun u=>u.2.2.2.2.1.map fun t=>t.2.2.1.2.2.2.2.1)
def Uo(w:cD)(p:Int)(x:Pl):List Pl:=x::(List.range w.1.1.2.2.1.length).flatMap fun(i:Nat)=>(Bw w p).flatMap fun(q:Int)=>(List.range 4).map fun(j:Nat)=>(((i:Int),(q,((j:Int),()))):Pl)
theorem Ol{w:cD}(p:Int)(hT:FT w.1.1)(hf:w.2.1.length≤60):(Bw w p).length≤86:=by
 have h:=tN (f:=fun u:iA=>u.2.2.2.2.1.map fun t=>t.2.2.1.2.2.2.2.1) (n:=6) (l:=w.1.1.2.2.2.1) fun x hx=>by rw[iD];exact hT.adN x hx
 have h4:=hT.rules
 unfold Bw
 rw[fc,fc,eI,iD]
 omega
theorem J3{w:cD}(p:Int)(x:Pl)(hT:FT w.1.1)(hf:w.2.1.length≤60):(Uo w p x).length≤2100:=by
 have h1:=Ol p hT hf
 have h2:∀i:Nat,((Bw w p).flatMap fun(q:Int)=>(List.range 4).map fun(j:Nat)=>(((i:Int),(q,((j:Int),()))):Pl)).length≤344:=fun i=>by
  have:=tN (f:=fun(q:Int)=>(List.range 4).map fun(j:Nat)=>(((i:Int),(q,((j:Int),()))):Pl)) (n:=4) (l:=Bw w p) fun y _=>by rw[iD,List.length_range];exact dD _
  omega
 have h3:=tN (f:=fun(i:Nat)=>(Bw w p).flatMap fun(q:Int)=>(List.range 4).map fun(j:Nat)=>(((i:Int),(q,((j:Int),()))):Pl)) (n:=344) (l:=List.range w.1.1.2.2.1.length) fun i _=>h2 i
 rw[List.length_range] at h3
 have h4:=hT.dT
 unfold Uo
 rw[fc]
 omega
theorem UE{w:cD}(p:Int)(x:Pl){a q i:Int}(a0:0≤a)(a1:a<(w.1.1.2.2.1.length:Int))(hq:q∈Bw w p)(i0:0≤i)(i1:i<4):(a,(q,(i,())))∈Uo w p x:=by
 refine eH _ (List.mem_flatMap.2 ⟨a.toNat,List.mem_range.2 (by omega),List.mem_flatMap.2 ⟨q,hq,List.mem_map.2 ⟨i.toNat,List.mem_range.2 (by omega),?_⟩⟩⟩)
 have e1:((a.toNat:Nat):Int)=a:=by omega
 have e2:((i.toNat:Nat):Int)=i:=by omega
 rw[e1,e2]
theorem WXo{w:cD}{lo:Zf}(hc:CG w.1.1 lo)(hT:FT w.1.1)(hf:w.2.1.length≤60)(p:Int)(x:Pl){ix:Ix}(hix:IX (Bw w p) ix):WX w lo (Bw w p) (Uo w p x) ix where
 cg:=hc
 zero:=dK ..
 consts u hu t ht:=eH _ (eH _ (rZ _ (List.mem_flatMap.2 ⟨u,hu,List.mem_map.2 ⟨t,ht,rfl⟩⟩)))
 pl _ _ _ a0 a1 hq i0 i1:=UE p x a0 a1 hq i0 i1
 len:=dp (J3 p x hT hf) (by decide)
 fl a a0 a1:=by
  have:=hT.fields _ (dw (t:=aU) (l:=w.1.1.2.2.1) a0 a1)
  exact dp this (by decide)
 ix:=hix
abbrev Rs:=IJ
abbrev In:=yx
abbrev Rd:=Cz
abbrev Ru:=iA
abbrev An:=Bool×In×List Rd
inductive Qy(α:Type) where
 |ret:α→Qy α
 |ask:Pl→(Bool→In→Qy α)→Qy α
def Qy.bind{α β:Type}:Qy α→(α→Qy β)→Qy β
 | .ret a,f=>f a
 | .ask p k,f=>.ask p fun b x=>(k b x).bind f
def Qy.run{α:Type}(O:Pl→An):Qy α→α×List Rd
 | .ret a=>(a,[])
 | .ask p k=>(((k (O p).1 (O p).2.1).run O).1,(O p).2.2++((k (O p).1 (O p).2.1).run O).2)
theorem Qy.run_bind{α β:Type}(O:Pl→An)(f:α→Qy β):∀x:Qy α,(x.bind f).run O=(((f (x.run O).1).run O).1,(x.run O).2++((f (x.run O).1).run O).2)
 | .ret a=>rfl
 |
  .ask p k=>by
  show((((k (O p).1 (O p).2.1).bind f).run O).1,(O p).2.2++(((k (O p).1 (O p).2.1).bind f).run O).2)=((((f ((k (O p).1 (O p).2.1).run O).1)).run O).1,((O p).2.2++((k (O p).1 (O p).2.1).run O).2)++((f ((k (O p).1 (O p).2.1).run O).1).run O).2)
  rw[Qy.run_bind O f (k (O p).1 (O p).2.1),List.append_assoc]
open Classical in
def eV:List Rd→List Rd→List Rd
 |rs,[]=>rs
 |rs,r::t=>eV (if r∈rs then rs else rs++[r]) t
theorem gV:∀(a rs b:List Rd),eV rs (a++b)=eV (eV rs a) b
 |[],_,_=>rfl
 |r::a,rs,b=>gV a (if r∈rs then rs else rs++[r]) b
theorem qx:∀(t rs:List Rd)(x:Rd),x∈eV rs t↔x∈rs∨x∈t
 |[],rs,x=>by simp[eV]
 |
  r::t,rs,x=>by
  unfold eV
  rw[qx t]
  by_cases h:r∈rs
  ·rw[aA h,fa]
   exact⟨fun h=>h.imp id Or.inr,fun h'=>h'.elim Or.inl fun h'=>h'.elim (fun e=>Or.inl (e▸h)) Or.inr⟩
  ·rw[aD h,fa,i7,jP,or_assoc]
theorem vT:∀(t rs:List Rd),(∀r∈t,r∈rs)→eV rs t=rs
 |[],_,_=>rfl
 |
  r::t,rs,h=>by
  unfold eV
  rw[aA (h r (dK ..))]
  exact vT t rs fun x hx=>h x (eH _ hx)
def SJ(se:SM)(rs:List Rd):Prop:=∀r,bE bJ .bool r se=true↔r∈rs
theorem rE:∀(n:List Rd)(se:SM)(acc:List Rd)(s':SM)(a':List Rd),js n se acc=some (s',a')→SJ se acc→a'=eV acc n∧SJ s' a'
 |
  [],se,acc,s',a',h,hs=>by
  cases h
  exact⟨rfl,hs⟩
 |
  r::n,se,acc,s',a',h,hs=>by
  unfold js at h
  unfold eV
  split at h
  ·rename_i hm
   rw[aA ((hs r).1 hm)]
   exact rE n se acc s' a' h hs
  ·rename_i hm
   rw[aD fun hr=>hm ((hs r).2 hr)]
   split at h
   ·split at h
    ·refine rE n _ _ s' a' h fun x=>?_
     rw[i7,jP]
     by_cases e:x=r
     ·subst e
      rw[fO (kt:=bJ) (vt:=.bool) rfl]
      exact⟨fun _=>Or.inr rfl,fun _=>rfl⟩
     ·rw[fg (kt:=bJ) (vt:=.bool) rfl e,hs x]
      exact⟨Or.inl,fun h=>h.elim id fun h=>absurd h e⟩
    ·cases h
   ·cases h
def w0(s:cH):cD:=((s,([],())),([],()))
def Bx(s:cH)(u:Ru)(l:List In):Bool:=match nD u (w0 s) none 0 0 false none () l [] [] [] with
 |some r=>r.1
 |none=>false
def lR(s:cH)(u:Ru)(p:Int)(l:List In):In:=match nG u p l (w0 s) none 0 0 false none () [] [] [] with
 |some r=>r.2.2.2.2.2.2.2.2.2.2
 |none=>(0,(0,(0,([],()))))
def rF(u:Ru)(p:Int)(l:List In):Int:=
 if(nth aL u.2.2.1 (l.length:Int)).2.2.2.1.2.2.1= -1 then p else nth (.int .i64) (nth fj l (nth aL u.2.2.1 (l.length:Int)).2.2.2.1.2.2.1).2.2.2.1 (nth aL u.2.2.1 (l.length:Int)).2.2.2.1.2.2.2.1
def iT(look:Pl→Qy Rs)(ch:List In→Qy (Bool×List In))(a o:Int)(l:List In):Nat→Nat→Qy (Bool×List In)
 |0,_=>.ret (false,l)
 |n+1,c=>(look (a,(o,((c:Int),())))).bind fun x=>if x.2.2.2.1=true then(ch (l++[x.1])).bind fun y=>if y.1=true then .ret y else iT look ch a o l n (c+1) else iT look ch a o l n (c+1)
def pb(m:DM)(a:Int):Nat:=if bE (.int .i64) .bool a (bK m)=true then 1 else 4
def dy(look:Pl→Qy Rs)(s:cH)(m:DM)(u:Ru)(p:Int):Nat→List In→Qy (Bool×List In)
 |0,l=>.ret (Bx s u l,l)
 |n+1,l=>iT look (dy look s m u p n) (nth aL u.2.2.1 (l.length:Int)).2.2.1 (rF u p l) l (pb m (nth aL u.2.2.1 (l.length:Int)).2.2.1) 0
def zR:Rs:=((0,(0,(0,([],())))),(0,([],(false,()))))
def gk(ch:Ru→Qy (Bool×List In))(bd:Ru→List In→In)(R:List Ru)(a:Int):Nat→Nat→Qy Rs
 |0,_=>.ret zR
 |n+1,c=>if(nth bQ R (c:Int)).2.1=a then(ch (nth bQ R (c:Int))).bind fun y=>if y.1=true then .ret (bd (nth bQ R (c:Int)) y.2,((c:Int),(y.2,(true,())))) else gk ch bd R a n (c+1) else gk ch bd R a n (c+1)
def jT(s:cH)(m:DM)(look:Pl→Qy Rs)(p:Pl):Qy Rs:=
 if bE (.int .i64) .bool p.1 (bK m)=true then gk (fun u=>dy look s m u p.2.1 u.2.2.1.length []) (fun u l=>lR s u p.2.1 l) s.2.2.2.1 p.1 s.2.2.2.1.length 0 else .ask p fun b x=>.ret (x,(0,([],(b,()))))
def vU(s:cH)(m:DM):Nat→Pl→Qy Rs
 |0,_=>.ret zR
 |n+1,p=>jT s m (vU s m n) p
theorem qy{k1 k2:Pl→Qy Rs}{ch1 ch2:List In→Qy (Bool×List In)}{a:Int}{l:List In}(h:∀y,k1 (a,y)=k2 (a,y))(hc:∀x,ch1 (l++[x])=ch2 (l++[x]))(o:Int):∀n c,iT k1 ch1 a o l n c=iT k2 ch2 a o l n c
 |0,_=>rfl
 |
  n+1,c=>by
  unfold iT
  rw[h,qy h hc o n]
  simp only[hc]
theorem oC{k1 k2:Pl→Qy Rs}{s:cH}{m:DM}{u:Ru}(h:∀v∈u.2.2.1,∀y,k1 (v.2.2.1,y)=k2 (v.2.2.1,y))(p:Int):∀n l,l.length+n=u.2.2.1.length→dy k1 s m u p n l=dy k2 s m u p n l
 |0,_,_=>rfl
 |n+1,l,hl=>qy (h _ (dw (t:=aL) (l:=u.2.2.1) (eB l.length) (by omega))) (fun x=>oC h p n (l++[x]) (by rw[eI,cY];omega)) _ _ _
theorem qz{c1 c2:Ru→Qy (Bool×List In)}{bd:Ru→List In→In}{R:List Ru}{a:Int}(h:∀u∈R,u.2.1=a→c1 u=c2 u):∀n c,c+n≤R.length→gk c1 bd R a n c=gk c2 bd R a n c
 |0,_,_=>rfl
 |
  n+1,c,hc=>by
  unfold gk
  rw[qz h n (c+1) (by omega)]
  split
  ·rename_i hu
   rw[h _ (dw (t:=bQ) (l:=R) (eB c) (by omega)) hu]
  ·rfl
theorem sB{k1 k2:Pl→Qy Rs}{s:cH}{m:DM}{p:Pl}(h:∀u∈s.2.2.2.1,u.2.1=p.1→∀v∈u.2.2.1,∀y,k1 (v.2.2.1,y)=k2 (v.2.2.1,y)):jT s m k1 p=jT s m k2 p:=by
 unfold jT
 rw[qz (fun u hu e=>oC (h u hu e) p.2.1 _ [] (dY _)) _ 0 (by omega)]
theorem qA{s:cH}{lo:Zf}(hr:∀u∈s.2.2.2.1,∀v∈u.2.2.1,lo.idxOf v.2.2.1<lo.idxOf u.2.1)(m:DM):∀n n' p,lo.idxOf p.1<n→lo.idxOf p.1<n'→vU s m n p=vU s m n' p
 |
  n+1,n'+1,p,h,h'=>sB fun u hu e v hv y=>by
  have:=hr u hu v hv
  rw[e] at this
  exact qA hr m n n' _ (show lo.idxOf v.2.2.1<n by omega) (show lo.idxOf v.2.2.1<n' by omega)
def LQ(s:cH)(m:DM)(lo:Zf)(p:Pl):Qy Rs:=vU s m (lo.idxOf p.1+1) p
theorem J4{s:cH}{lo:Zf}(hr:∀u∈s.2.2.2.1,∀v∈u.2.2.1,lo.idxOf v.2.2.1<lo.idxOf u.2.1)(m:DM)(p:Pl):LQ s m lo p=jT s m (LQ s m lo) p:=by
 show jT s m (vU s m (lo.idxOf p.1)) p=_
 refine sB fun u hu e v hv y=>?_
 have:=hr u hu v hv
 rw[e] at this
 exact qA hr m _ _ _ this (Nat.lt_succ_self _)
structure MY(w:cD)(PS:Zf)(U:List Pl)(ix:Ix)(d k:Int)(O:Pl→An):Prop where
 wy:WY w PS U ix
 ra:∀p:Pl,p.2.1∈PS→f77 (w.1,(iS w.1.1 ix p,())) p.1 p.2.1 p.2.2.1 d k=some (O p)
structure MX(w:cD)(lo PS:Zf)(U:List Pl)(ix:Ix)(m:DM)(d k:Int)(O:Pl→An)(L:Pl→Qy Rs):Prop where
 wx:WX w lo PS U ix
 my:MY w PS U ix d k O
 fix:∀p,L p=jT w.1.1 m L p
variable{w:cD} {lo PS:Zf} {U:List Pl} {ix:Ix} {m:DM} {d k:Int} {O:Pl→An} {L:Pl→Qy Rs}
def FG(r:Rs):Prop:=r.2.2.1.length≤3∧∀y∈r.2.2.1,y.2.2.2.1.length≤1000
theorem FG.zero:FG zR:=⟨fR _,fun y hy=>(by cases hy)⟩
structure MI(s:cH)(PS:Zf)(U:List Pl)(O:Pl→An)(L:Pl→Qy Rs)(fo:FM)(se:SM)(rs:List Rd):Prop where
 fi:FI s PS U fo se rs
 vl:∀e∈fo,e.2=((L e.1).run O).1∧(∀r∈((L e.1).run O).2,r∈rs)∧FG ((L e.1).run O).1
 si:SJ se rs
theorem MI.nil(s:cH)(PS:Zf)(U:List Pl)(O:Pl→An)(L:Pl→Qy Rs):MI s PS U O L [] [] []:=⟨FI.nil s PS U,fun e he=>(by cases he),fun r=>⟨fun h=>(by cases h),fun h=>(by cases h)⟩⟩
theorem MI.put{s:cH}{fo:FM}{se se':SM}{rs:List Rd}(h:MI s PS U O L fo se rs){p:Pl}(hf:FI s PS U (bF bS p ((L p).run O).1 fo) se' (eV rs ((L p).run O).2))(hs:SJ se' (eV rs ((L p).run O).2))(hg:FG ((L p).run O).1):MI s PS U O L (bF bS p ((L p).run O).1 fo) se' (eV rs ((L p).run O).2) where
 fi:=hf
 vl e he:=by
  rcases fw (kt:=bS) he with rfl|he
  ·exact⟨rfl,fun r hr=>(qx ..).2 (Or.inr hr),hg⟩
  ·exact⟨(h.vl e he).1,fun r hr=>(qx ..).2 (Or.inl ((h.vl e he).2.1 r hr)),(h.vl e he).2.2⟩
 si:=hs
def LP(w:cD)(PS:Zf)(U:List Pl)(ix:Ix)(m:DM)(d k:Int)(O:Pl→An)(L:Pl→Qy Rs)(b:Bool)(z:Unit)(p:Pl)(rs:List Rd)(r:cD×Ix×Int×Int×Bool×DM×Unit×FM×SM×Rs×List Rd):Prop:=
 ∃fo se,r=(w,ix,d,k,b,m,z,fo,se,((L p).run O).1,eV rs ((L p).run O).2)∧MI w.1.1 PS U O L fo se (eV rs ((L p).run O).2)∧(((L p).run O).1.2.2.2.1=true→FV w.1.1 PS ((L p).run O).1.1 p.1)∧FG ((L p).run O).1
theorem PH(X:MY w PS U ix d k O)(q0:Q0)(q1:Q1)(p:Pl)(hf:L p=jT w.1.1 m L p)(b:Bool)(z:Unit){fo:FM}{se:SM}{rs:List Rd}(h:MI w.1.1 PS U O L fo se rs)(hU:p∈U)(hP:p.2.1∈PS)
 (hd:bE (.int .i64) .bool p.1 (bK m)=true→W (uO q0 q1 p w ix d k b m z fo se rs) (LP w PS U ix m d k O L b z p rs)):W (jn q0 q1 p w ix d k b m z fo se rs) (LP w PS U ix m d k O L b z p rs):=by
 have hB:=hB
 unfold jn
 cases hp:de bS p fo with
 |
  true=>
  rw[aA rfl]
  obtain⟨i,hi⟩:=pW (kt:=bS) (vt:=fC) rfl hp
  have he:=mU hi
  obtain⟨v1,v2,v3⟩:=h.vl _ he
  have v1:bE bS fC p fo=((L p).run O).1:=v1
  have hx:=h.fi.ok _ he
  rw[v1] at hx ⊢
  have e:=vT _ _ v2
  exact⟨_,rfl,fo,se,by rw[e],by rw[e];exact h,hx,v3⟩
 |
  false=>
  rw[aD (by decide)]
  cases hder:bE (.int .i64) .bool p.1 (bK m) with
  |
   true=>
   rw[aA rfl]
   refine bY.2 (yy.2 ((hd hder).mono fun r hr=>?_))
   obtain⟨fo',se',rfl,h',hx,hg3⟩:=hr
   refine⟨_,rfl,?_⟩
   rw[jo]
   dsimp only
   have hl:=h'.fi.len
   have hl2:=X.wy.len
   have hg:fo'.length≤(bF bS p ((L p).run O).1 fo').length:=F5 (kt:=bS)
   have h1:=h'.fi.se
   have h2:=h'.fi.rs
   have e:=vT _ _ fun r hr=>(qx ((L p).run O).2 rs r).2 (Or.inr hr)
   rw[aA (show fo'.length+1≤aG by omega)]
   refine⟨_,rfl,_,_,rfl,?_,hx,hg3⟩
   have h3:MI w.1.1 PS U O L (bF bS p ((L p).run O).1 fo') se' (eV (eV rs ((L p).run O).2) ((L p).run O).2):=h'.put (by rw[e];exact h'.fi.put hU hx (by omega) (by omega)) (by rw[e];exact h'.si) hg3
   rw[e] at h3
   exact h3
  |
   false=>
   rw[aD (by decide)]
   obtain⟨M,y,x,n,se',rs',e1,e2,e3,hl,hr⟩:=PG X.wy p d k b m z h.fi hp hU hP
   have e1':=F7 X.wy p d k b m z fo se rs
   rw[e1'] at e1
   have eL:iS w.1.1 ix p=M:=by
    have e:=ja e1
    simp only[il,true_and,and_true] at e
    exact e
   subst eL
   have eO:O p=(y,x,n):=ja ((X.ra p hP).symm.trans e2)
   have eq:(L p).run O=((x,(0,([],(y,())))),n):=by
    rw[hf]
    unfold jT
    rw[hder,aD (by decide)]
    unfold Qy.run
    rw[eO]
    unfold Qy.run
    rw[ik]
   have e4:ng n=some n:=rfl
   obtain⟨fo2,se2,x2,rs2,er,h',hx⟩:=hr
   cases er
   have hfr:js n se rs=some (se',rs'):=by
    unfold iu at e3
    split at e3
    ·cases hq:js n se rs with
     |none=>rw[hq] at e3;cases e3
     |some q=>rw[hq] at e3;cases e3;rfl
    ·cases e3
   obtain⟨s1,s2⟩:=rE n se rs se' rs' hfr h.si
   subst s1
   rw[e1',aK]
   dsimp only
   rw[iK,iK,iK,iK,e2,aK]
   dsimp only
   rw[e4,aK,e3,aK,aJ]
   dsimp only
   rw[aA hl]
   have hg3:FG ((L p).run O).1:=by rw[eq];exact⟨fR _,fun y hy=>(by cases hy)⟩
   refine⟨_,rfl,_,_,by rw[eq],?_,by rw[eq];exact hx,hg3⟩
   have h3:MI w.1.1 PS U O L (bF bS p ((L p).run O).1 fo) se' (eV rs ((L p).run O).2):=h.put (by rw[eq];exact h') (by rw[eq];exact s2) hg3
   rw[eq] at h3 ⊢
   exact h3
theorem J5{u:Ru}{l:List In}(hN:NB w.1.1)(hw:u.2.2.2.1.length≤aG)(hR:RK (cR w.1.1 u))(hL:LI w.1.1 PS u l)(hl:l.length=u.2.2.1.length)(ix:Ix)(d k:Int)(b:Bool)(m:DM)(z:Unit)(fo:FM)(se:SM)(rs:List Rd):
 nD u w ix d k b m z l fo se rs=some (Bx w.1.1 u l,w,ix,d,k,b,m,z,l,fo,se,rs):=by
 obtain⟨y,hy⟩:=RZ hN hw hR hL hl
 have e:Bx w.1.1 u l=y:=by unfold Bx;rw[hy (w0 w.1.1) rfl none 0 0 false none () [] [] []]
 rw[e]
 exact hy w rfl ix d k b m z fo se rs
theorem Hn{u:Ru}{l:List In}(hw:u.2.2.2.2.1.length≤aG)(hR:RK (cR w.1.1 u))(hL:LI w.1.1 PS u l)(hl:l.length=u.2.2.1.length)(hf:1≤(cN w.1.1 u.2.1).length)(hf2:(cN w.1.1 u.2.1).length≤1000)(p:Int)(hp:p∈PS)(h0:(0:Int)∈PS)(hc:∀t∈u.2.2.2.2.1,t.2.2.1.2.2.2.2.1∈PS):
 FV w.1.1 PS (lR w.1.1 u p l) u.2.1∧∀ix d k b m z fo se rs,nG u p l w ix d k b m z fo se rs=some (w,ix,d,k,b,m,z,fo,se,rs,lR w.1.1 u p l):=by
 obtain⟨x,hx,hy⟩:=Og hw hR hL hl hf hf2 p hp h0 hc
 have e:lR w.1.1 u p l=x:=by unfold lR;rw[hy (w0 w.1.1) rfl none 0 0 false none () [] [] []]
 rw[e]
 exact⟨hx,hy w rfl⟩
def CQ(w:cD)(PS:Zf)(U:List Pl)(ix:Ix)(m:DM)(d k:Int)(O:Pl→An)(L:Pl→Qy Rs)(b:Bool)(z:Unit)(u:Ru)(p:Int)(l:List In)(y:(Bool×List In)×List Rd)(rs:List Rd)(r:Bool×Ru×Int×cD×Ix×Int×Int×Bool×DM×Unit×FM×SM×List In×List Rd):Prop:=
 ∃fo se,r=(y.1.1,u,p,w,ix,d,k,b,m,z,fo,se,y.1.2,eV rs y.2)∧MI w.1.1 PS U O L fo se (eV rs y.2)∧(y.1.1=false→y.1.2=l)∧(y.1.1=true→LI w.1.1 PS u y.1.2∧y.1.2.length=u.2.2.1.length)
theorem Om(X:MX w lo PS U ix m d k O L)(q0:Q0)(q1:Q1)(p:Pl)(b:Bool)(z:Unit){fo:FM}{se:SM}{rs:List Rd}(h:MI w.1.1 PS U O L fo se rs)(hP:p.2.1∈PS)(hm:bE (.int .i64) .bool p.1 (bK m)=true)
 (hq:∀u∈w.1.1.2.2.2.1,u.2.1=p.1→∀fo se rs,MI w.1.1 PS U O L fo se rs→W (q1 (u,p.2.1,[],w,ix,d,k,b,m,z,fo,se,rs,())) (CQ w PS U ix m d k O L b z u p.2.1 [] ((dy L w.1.1 m u p.2.1 u.2.2.1.length []).run O) rs)):
 W (uO q0 q1 p w ix d k b m z fo se rs) (LP w PS U ix m d k O L b z p rs):=by
 have hB:=hB
 have hr:=X.wx.cg.sw.rules
 let Z:Nat→Rs×List Rd:=fun c=>(gk (fun u=>dy L w.1.1 m u p.2.1 u.2.2.1.length []) (fun u l=>lR w.1.1 u p.2.1 l) w.1.1.2.2.2.1 p.1 (w.1.1.2.2.2.1.length -c) c).run O
 have eZ:(L p).run O=Z 0:=by rw[X.fix p];unfold jT;rw[aA hm];rfl
 unfold uO
 refine bY.2 (W.ct (B:=fun r=>(Z 0).1=zR∧∃fo' se',r=(w,ix,d,k,b,m,z,fo',se',(0:Int),(0:Int),(0:Int),(0:Int),false,eV rs (Z 0).2)∧MI w.1.1 PS U O L fo' se' (eV rs (Z 0).2)) (Q:=LP w PS U ix m d k O L b z p rs) ?_ (fun r hr=>?_) fun r hr=>hr)
 ·refine W.mono (uK (L:=xj q0 q1) rfl (fun c(s:FM×SM×List Rd)(r:cV _ _)=>CT (fun r=>(Z c).1=zR∧∃fo' se',r=(w,ix,d,k,b,m,z,fo',se',(0:Int),(0:Int),(0:Int),(0:Int),false,eV s.2.2 (Z c).2)∧MI w.1.1 PS U O L fo' se' (eV s.2.2 (Z c).2)) (fun r=>∃fo' se',r=(w,ix,d,k,b,m,z,fo',se',(Z c).1,eV s.2.2 (Z c).2)∧MI w.1.1 PS U O L fo' se' (eV s.2.2 (Z c).2)∧FV w.1.1 PS (Z c).1.1 p.1∧FG (Z c).1) r) w.1.1.2.2.2.1.length (fun c(s:FM×SM×List Rd)=>(w.1.1.2.2.2.1,(w.1.1.2.2.2.1.length:Int),(c:Int),w,ix,d,k,b,m,z,s.1,s.2.1,p,(0:Int),(0:Int),(0:Int),(0:Int),false,s.2.2)) (fun _ s=>MI w.1.1 PS U O L s.1 s.2.1 s.2.2) ?step ?stop _ 0 (fo,se,rs) (by omega) (by omega) h) fun r hr=> ?fin
  case fin=>
   refine CT.mono (fun _ h=>h) (fun r h=>?_) r hr
   obtain⟨fo',se',rfl,h',hx,hg⟩:=h
   unfold LP
   rw[eZ]
   exact⟨fo',se',rfl,h',fun _=>hx,hg⟩
  case step=>
   rintro rec c ⟨fo,se,rs⟩ hc hI kk
   dsimp only at hI ⊢
   have hw2:=nE c (by omega)
   have hc1:(c:Int)<(w.1.1.2.2.2.1.length:Int):=by omega
   have hmm:=dw (t:=bQ) (l:=w.1.1.2.2.2.1) (eB c) hc1
   rw[db hc1,fP c,aA hc1]
   have eq:Z c=(if(nth bQ w.1.1.2.2.2.1 (c:Int)).2.1=p.1 then(dy L w.1.1 m (nth bQ w.1.1.2.2.2.1 (c:Int)) p.2.1 (nth bQ w.1.1.2.2.2.1 (c:Int)).2.2.1.length []).bind fun y=>if y.1=true then .ret (lR w.1.1 (nth bQ w.1.1.2.2.2.1 (c:Int)) p.2.1 y.2,((c:Int),(y.2,(true,())))) else gk (fun u=>dy L w.1.1 m u p.2.1 u.2.2.1.length []) (fun u l=>lR w.1.1 u p.2.1 l) w.1.1.2.2.2.1 p.1 (w.1.1.2.2.2.1.length -(c+1)) (c+1) else gk (fun u=>dy L w.1.1 m u p.2.1 u.2.2.1.length []) (fun u l=>lR w.1.1 u p.2.1 l) w.1.1.2.2.2.1 p.1 (w.1.1.2.2.2.1.length -(c+1)) (c+1):Qy Rs).run O:=by
    show(gk _ _ _ _ _ _).run O=_
    rw[show w.1.1.2.2.2.1.length -c=(w.1.1.2.2.2.1.length -(c+1))+1 by omega]
    rfl
   rw[eq]
   generalize nth bQ w.1.1.2.2.2.1 (c:Int)=u at hmm ⊢
   by_cases hu:u.2.1=p.1
   ·rw[aD (show¬(!decide (u.2.1=p.1))=true by simp[hu]),aA hu,Qy.run_bind]
    obtain⟨r,er,fo',se',rfl,h',y0,y1⟩:=hq u hmm hu fo se rs hI
    have ea:th q0 q1 u p.2.1 w ix d k b m z fo se rs=(if(!((dy L w.1.1 m u p.2.1 u.2.2.1.length []).run O).1.1)=true then(some (false,w,ix,d,k,b,m,z,fo',se',([]:List In),eV rs ((dy L w.1.1 m u p.2.1 u.2.2.1.length []).run O).2)) else(some (true,w,ix,d,k,b,m,z,fo',se',((dy L w.1.1 m u p.2.1 u.2.2.1.length []).run O).1.2,eV rs ((dy L w.1.1 m u p.2.1 u.2.2.1.length []).run O).2))):=by
     unfold th;rw[er];rfl
    rw[ea]
    generalize (dy L w.1.1 m u p.2.1 u.2.2.1.length []).run O=y at h' y0 y1 ⊢
    obtain⟨⟨y,l⟩,t⟩:=y
    dsimp only at h' y0 y1 ⊢
    cases y with
    |
     false=>
     rw[aA (show(!false)=true from rfl),aK]
     dsimp only
     rw[aD (by decide),aD (by decide),hw2,gV]
     exact kk (fo',se',eV rs t) h'
    |
     true=>
     obtain⟨hLI,hlen⟩:=y1 rfl
     have hR:=X.wx.cg.tg.rules u hmm
     have hf:=X.wx.cg.tg.fields _ (dw (t:=aU) (l:=w.1.1.2.2.1) hR.h0 hR.h1)
     have hs:=(X.wx.cg.sw.rl u hmm).2.2
     obtain⟨hx,hbu⟩:=Hn (w:=w) (by omega) hR hLI hlen hf (X.wx.fl _ hR.h0 hR.h1) p.2.1 hP X.wx.zero (X.wx.consts u hmm)
     rw[aD (show¬(!true)=true by decide),aK]
     dsimp only
     rw[aA rfl,aA rfl,hbu ix d k b m z fo' se',aK]
     unfold Qy.run
     rw[ik]
     refine⟨_,rfl,fo',se',rfl,h',hu▸hx,?_,fun y hy=>?_⟩
     ·show l.length≤3
      rw[hlen];exact hR.n3
     ·obtain⟨j,hj,rfl⟩:=kV hy
      have hj2:j<l.length:=hj
      have hF:FO (cR w.1.1 u) j:=hR.fo j (show j<u.2.2.1.length by omega)
      have:=(hLI.ok (j:Int) (eB j) (by omega)).1
      rw[ew (t:=fj) hj2] at this
      rw[this]
      exact X.wx.fl _ hF.s0 hF.s1
   ·rw[aA (show(!decide (u.2.1=p.1))=true by simp[hu]),aD hu,hw2]
    exact kk (fo,se,rs) hI
  case stop=>
   rintro rec ⟨fo,se,rs⟩ hI
   dsimp only at hI ⊢
   rw[gY (by omega)]
   have e:Z w.1.1.2.2.2.1.length=(zR,[]):=by
    show(gk _ _ _ _ (w.1.1.2.2.2.1.length -w.1.1.2.2.2.1.length) _).run O=_
    rw[Nat.sub_self];rfl
   rw[e]
   exact⟨_,rfl,rfl,fo,se,rfl,hI⟩
 ·obtain⟨e0,fo',se',rfl,h'⟩:=hr
  unfold LP
  rw[eZ,e0]
  exact⟨_,rfl,fo',se',rfl,h',fun h=>(by cases h),FG.zero⟩
variable{w:cD} {lo PS:Zf} {U:List Pl} {ix:Ix} {m:DM} {d k:Int} {O:Pl→An} {L:Pl→Qy Rs}
abbrev CH:Ru×Int×cD×Ix×Int×Int×Bool×DM×Unit×FM×SM×(List In)×(List Rd)→Option (Bool×Ru×Int×cD×Ix×Int×Int×Bool×DM×Unit×FM×SM×List In×List Rd):=fun x=>some (false,x.1,x.2.1,x.2.2.1,x.2.2.2.1,x.2.2.2.2.1,x.2.2.2.2.2.1,x.2.2.2.2.2.2.1,x.2.2.2.2.2.2.2.1,x.2.2.2.2.2.2.2.2.1,x.2.2.2.2.2.2.2.2.2.1,x.2.2.2.2.2.2.2.2.2.2.1,x.2.2.2.2.2.2.2.2.2.2.2.1,x.2.2.2.2.2.2.2.2.2.2.2.2)
theorem On(q0:Q0)(q1:Q1)(u:Ru)(p:Int)(l:List In)(b:Bool)(z:Unit)(fo:FM)(se:SM)(rs:List Rd)(hlt:l.length<u.2.2.1.length)
 (ho:(nth aL u.2.2.1 (l.length:Int)).2.2.2.1.2.2.1= -1∨(0≤(nth aL u.2.2.1 (l.length:Int)).2.2.2.1.2.2.1∧(nth aL u.2.2.1 (l.length:Int)).2.2.2.1.2.2.1<(l.length:Int)∧0≤(nth aL u.2.2.1 (l.length:Int)).2.2.2.1.2.2.2.1∧(nth aL u.2.2.1 (l.length:Int)).2.2.2.1.2.2.2.1<((nth fj l (nth aL u.2.2.1 (l.length:Int)).2.2.2.1.2.2.1).2.2.2.1.length:Int))):
 jz q0 q1 u p l w ix d k b m z fo se rs=aI (U:=Ru×Int×cD×Ix×Int×Int×Bool×DM×Unit×FM×SM×(List In)×(List Rd)) (mD q0 q1 (Int.toNat ((pb m (nth aL u.2.2.1 (l.length:Int)).2.2.1:Nat):Int)+1) (rF u p l,((pb m (nth aL u.2.2.1 (l.length:Int)).2.2.1:Nat):Int),(0:Int),u,p,w,ix,d,k,b,m,z,fo,se,nth aL u.2.2.1 (l.length:Int),l,rs)) CH:=by
 unfold jz rF pb
 rw[aD (show¬decide ((l.length:Int)=(u.2.2.1.length:Int))=true by simp;omega),fP _,aA (show(l.length:Int)<(u.2.2.1.length:Int) by omega)]
 generalize nth aL u.2.2.1 (l.length:Int)=v at ho
 by_cases hv:v.2.2.2.1.2.2.1= -1
 ·rw[aD (show¬(!decide (v.2.2.2.1.2.2.1=(-1:Int)))=true by simp[hv]),aJ,aA hv]
  dsimp only
  by_cases hm:bE (.int .i64) .bool v.2.2.1 (bK m)=true
  ·rw[aA hm,aA hm,aJ];rfl
  ·rw[aD hm,aD hm,aJ];rfl
 ·obtain⟨a1,a2,a3,a4⟩:=ho.resolve_left hv
  rw[aA (show(!decide (v.2.2.2.1.2.2.1=(-1:Int)))=true by simpa using hv),aA a1,aA a2,aA a3,aA a4,aJ,aD hv]
  dsimp only
  by_cases hm:bE (.int .i64) .bool v.2.2.1 (bK m)=true
  ·rw[aA hm,aA hm,aJ];rfl
  ·rw[aD hm,aD hm,aJ];rfl
theorem Oo(X:MX w lo PS U ix m d k O L)(q0:Q0)(q1:Q1)(u:Ru)(hu:u∈w.1.1.2.2.2.1)(p:Int)(l:List In)(b:Bool)(z:Unit){fo:FM}{se:SM}{rs:List Rd}(h:MI w.1.1 PS U O L fo se rs)(hP:p∈PS)(hL:LI w.1.1 PS u l)
 (hq0:∀y:Pl,y∈U→y.2.1∈PS→l.length<u.2.2.1.length→y.1=(nth aL u.2.2.1 (l.length:Int)).2.2.1→∀fo se rs,MI w.1.1 PS U O L fo se rs→W (q0 (y,w,ix,d,k,b,m,z,fo,se,rs,())) (LP w PS U ix m d k O L b z y rs))
 (hq1:∀l',LI w.1.1 PS u l'→l'.length=l.length+1→∀fo se rs,MI w.1.1 PS U O L fo se rs→W (q1 (u,p,l',w,ix,d,k,b,m,z,fo,se,rs,())) (CQ w PS U ix m d k O L b z u p l' ((dy L w.1.1 m u p (u.2.2.1.length -l'.length) l').run O) rs)):
 W (jz q0 q1 u p l w ix d k b m z fo se rs) (CQ w PS U ix m d k O L b z u p l ((dy L w.1.1 m u p (u.2.2.1.length -l.length) l).run O) rs):=by
 have hB:=hB
 have hR:RK (cR w.1.1 u):=X.wx.cg.tg.rules u hu
 by_cases hl:l.length=u.2.2.1.length
 ·have hdl:decide ((l.length:Int)=(u.2.2.1.length:Int))=true:=cU (by omega)
  rw[show u.2.2.1.length -l.length=0 by omega]
  refine⟨(Bx w.1.1 u l,u,p,w,ix,d,k,b,m,z,fo,se,l,rs),?_,fo,se,rfl,h,fun _=>rfl,fun _=>⟨hL,hl⟩⟩
  unfold jz
  rw[aA hdl,J5 X.wx.cg.sw.nb (X.wx.cg.sw.rl u hu).2.1 hR hL hl];rfl
 ·have hll:=hL.len
  have hlt:l.length<u.2.2.1.length:=by omega
  have hn3:u.2.2.1.length≤3:=hR.n3
  have hF:FO (cR w.1.1 u) l.length:=hR.fo l.length hlt
  have hs0:0≤(nth aL u.2.2.1 (l.length:Int)).2.2.1:=hF.s0
  have hs1:(nth aL u.2.2.1 (l.length:Int)).2.2.1<(w.1.1.2.2.1.length:Int):=hF.s1
  have hpush:∀x:In,FV w.1.1 PS x (nth aL u.2.2.1 (l.length:Int)).2.2.1→LI w.1.1 PS u (l++[x]):=fun x hx=>hL.push hlt hx
  have ho:rF u p l∈PS∧((nth aL u.2.2.1 (l.length:Int)).2.2.2.1.2.2.1= -1∨(0≤(nth aL u.2.2.1 (l.length:Int)).2.2.2.1.2.2.1∧(nth aL u.2.2.1 (l.length:Int)).2.2.2.1.2.2.1<(l.length:Int)∧0≤(nth aL u.2.2.1 (l.length:Int)).2.2.2.1.2.2.2.1∧(nth aL u.2.2.1 (l.length:Int)).2.2.2.1.2.2.2.1<((nth fj l (nth aL u.2.2.1 (l.length:Int)).2.2.2.1.2.2.1).2.2.2.1.length:Int))):=by
   unfold rF
   by_cases hvar:(nth aL u.2.2.1 (l.length:Int)).2.2.2.1.2.2.1= -1
   ·rw[aA hvar];exact⟨hP,Or.inl hvar⟩
   ·rcases hF.of with h1|h1
    ·exact absurd h1 hvar
    ·obtain⟨a1,a2,a3,a4,a5⟩:=xJ hL (mV _) h1
     rw[aD hvar]
     exact⟨a5,Or.inr ⟨a1,a2,a3,a4⟩⟩
  rw[On q0 q1 u p l b z fo se rs hlt ho.2]
  obtain⟨ho,_⟩:=ho
  rw[show u.2.2.1.length -l.length=(u.2.2.1.length -(l.length+1))+1 by omega]
  unfold dy
  have hn4:pb m (nth aL u.2.2.1 (l.length:Int)).2.2.1≤4:=by unfold pb;split<;>omega
  have hch:∀x:In,LI w.1.1 PS u (l++[x])→∀fo se rs,MI w.1.1 PS U O L fo se rs→W (q1 (u,p,l++[x],w,ix,d,k,b,m,z,fo,se,rs,())) (CQ w PS U ix m d k O L b z u p (l++[x]) ((dy L w.1.1 m u p (u.2.2.1.length -(l.length+1)) (l++[x])).run O) rs):=fun x hx fo se rs hI=>by
   have:=hq1 (l++[x]) hx (by rw[eI,cY]) fo se rs hI
   rw[eI,cY] at this
   exact this
  generalize dy L w.1.1 m u p (u.2.2.1.length -(l.length+1))=ch at hch ⊢
  generalize pb m (nth aL u.2.2.1 (l.length:Int)).2.2.1=n at hn4 ⊢
  generalize rF u p l=o at ho ⊢
  generalize nth aL u.2.2.1 (l.length:Int)=v at hs0 hs1 hpush hq0 ⊢
  let Y:Nat→(Bool×List In)×List Rd:=fun c=>(iT L ch v.2.2.1 o l (n -c) c).run O
  show W _ (CQ w PS U ix m d k O L b z u p l (Y 0) rs)
  refine bY.2 (W.ct (W.mono (uK (L:=mD q0 q1) rfl (fun c(s:FM×SM×List Rd)(r:cV _ _)=>CT (fun r=>(Y c).1=(false,l)∧∃fo' se',r=(u,p,w,ix,d,k,b,m,z,fo',se',l,eV s.2.2 (Y c).2)∧MI w.1.1 PS U O L fo' se' (eV s.2.2 (Y c).2)) (fun r=>(Y c).1.1=true∧∃fo' se',r=(true,u,p,w,ix,d,k,b,m,z,fo',se',(Y c).1.2,eV s.2.2 (Y c).2)∧MI w.1.1 PS U O L fo' se' (eV s.2.2 (Y c).2)∧LI w.1.1 PS u (Y c).1.2∧(Y c).1.2.length=u.2.2.1.length) r) n (fun c(s:FM×SM×List Rd)=>(o,(n:Int),(c:Int),u,p,w,ix,d,k,b,m,z,s.1,s.2.1,v,l,s.2.2)) (fun _ s=>MI w.1.1 PS U O L s.1 s.2.1 s.2.2) ?step ?stop (Int.toNat (n:Int)+1) 0 (fo,se,rs) (by omega) (by omega) h) fun r hr=>hr) (fun r hr=>?_) fun r hr=>?_)
  case step=>
   rintro rec c ⟨fo,se,rs⟩ hc hI kk
   dsimp only at hI ⊢
   have hw2:=nE c (by omega)
   have hcn:decide ((c:Int)<(n:Int))=true:=cU (by omega)
   have hl48:∀x:In,(l.length+List.length [x])*48≤aG:=fun x=>by rw[cY];omega
   have eY:Y c=((L (v.2.2.1,(o,((c:Int),())))).bind fun x=>if x.2.2.2.1=true then(ch (l++[x.1])).bind fun y=>if y.1=true then .ret y else iT L ch v.2.2.1 o l (n -(c+1)) (c+1) else iT L ch v.2.2.1 o l (n -(c+1)) (c+1):Qy (Bool×List In)).run O:=by
    show(iT _ _ _ _ _ _ _).run O=_
    rw[show n -c=(n -(c+1))+1 by omega]
    rfl
   rw[eY,Qy.run_bind,aA hcn]
   obtain⟨r,er,fo',se',rfl,h',hx,_⟩:=hq0 (v.2.2.1,(o,((c:Int),()))) (X.wx.pl _ _ _ hs0 hs1 ho (eB c) (by omega)) ho hlt rfl fo se rs hI
   rw[er,aK]
   dsimp only at h' hx ⊢
   generalize (L (v.2.2.1,(o,((c:Int),())))).run O=x at h' hx ⊢
   obtain⟨x,t⟩:=x
   dsimp only at h' hx ⊢
   cases hk:x.2.2.2.1 with
   |
    false=>
    rw[aD (by decide),aD (by decide),hw2,gV]
    exact kk (fo',se',eV rs t) h'
   |
    true=>
    rw[aA rfl,aA (hl48 x.1),aA rfl,Qy.run_bind]
    obtain⟨r,er2,fo2,se2,rfl,h2,y0,y1⟩:=hch x.1 (hpush x.1 (hx hk)) fo' se' (eV rs t) h'
    rw[er2,aK]
    generalize (ch (l++[x.1])).run O=y at h2 y0 y1 ⊢
    obtain⟨⟨y,l2⟩,t2⟩:=y
    dsimp only at h2 y0 y1 ⊢
    cases y with
    |
     true=>
     rw[aA rfl,aA rfl]
     unfold Qy.run
     rw[ik]
     rw[gV]
     exact⟨_,rfl,rfl,fo2,se2,rfl,h2,y1 rfl⟩
    |
     false=>
     have e:=y0 rfl
     subst e
     have e1:bB (((l++[x.1]).length:Int) -(1:Int))=(l.length:Int):=by
      rw[eI,cY]
      rw[ib (by omega) (by omega)]
      omega
     have e3:(l.length:Int)≤((l++[x.1]).length:Int):=by rw[eI,cY];omega
     have ff:¬false=true:=by decide
     rw[aD ff,e1,fP _,aA e3,fb,Nat.sub_zero,List.take_left,hw2,aD ff,gV,gV]
     exact kk (fo2,se2,eV (eV rs t) t2) h2
  case stop=>
   rintro rec ⟨fo,se,rs⟩ hI
   dsimp only at hI ⊢
   rw[gY (by omega)]
   have e:Y n=((false,l),[]):=by
    show(iT _ _ _ _ _ (n -n) _).run O=_
    rw[Nat.sub_self];rfl
   rw[e]
   exact⟨_,rfl,rfl,fo,se,rfl,hI⟩
  ·obtain⟨e0,fo',se',rfl,h'⟩:=hr
   exact⟨_,rfl,fo',se',by rw[e0],h',fun _=>by rw[e0],fun h=>by rw[e0] at h;cases h⟩
  ·obtain⟨e0,fo',se',rfl,h',h2⟩:=hr
   exact⟨fo',se',by rw[e0],h',(fun h=>by rw[e0] at h;cases h),fun _=>h2⟩
theorem UF(X:MX w lo PS U ix m d k O L)(b:Bool)(z:Unit):∀n:Nat,
 (∀(p:Pl) fo se rs,MI w.1.1 PS U O L fo se rs→p∈U→p.2.1∈PS→5*(lo.idxOf p.1+1)≤n→W ((fe n).1 (p,w,ix,d,k,b,m,z,fo,se,rs,())) (LP w PS U ix m d k O L b z p rs))∧
 (∀u∈w.1.1.2.2.2.1,∀(q:Int) l fo se rs,MI w.1.1 PS U O L fo se rs→q∈PS→LI w.1.1 PS u l→5*lo.idxOf u.2.1+(u.2.2.1.length -l.length)+1≤n→W ((fe n).2 (u,q,l,w,ix,d,k,b,m,z,fo,se,rs,())) (CQ w PS U ix m d k O L b z u q l ((dy L w.1.1 m u q (u.2.2.1.length -l.length) l).run O) rs)):=by
 intro n
 induction n with
 |zero=>exact⟨fun p fo se rs _ _ _ h=>by omega,fun u _ q l fo se rs _ _ _ h=>by omega⟩
 |
  succ n ih=>
  refine⟨fun p fo se rs h hU hP hn=>?_,fun u hu q l fo se rs h hP hL hn=>?_⟩
  ·exact PH X.my (fe n).1 (fe n).2 p (X.fix p) b z h hU hP fun hm=>Om X _ _ p b z h hP hm fun u hu hup fo se rs h=>ih.2 u hu p.2.1 [] fo se rs h hP (LI.nil _ _ _) (by
    have hn3:u.2.2.1.length≤3:=(X.wx.cg.tg.rules u hu).n3
    rw[hup,qf]
    omega)
  ·exact Oo X (fe n).1 (fe n).2 u hu q l b z h hP hL (fun y hy hyP hlt hy1 fo se rs h=>ih.1 y fo se rs h hy hyP (by
    have hpre:=X.wx.cg.rk.pre u hu _ (dw (t:=aL) (l:=u.2.2.1) (eB l.length) (show(l.length:Int)<(u.2.2.1.length:Int) by omega))
    rw[←hy1] at hpre
    omega)) fun l' hL' hl' fo se rs h=>ih.2 u hu q l' fo se rs h hP hL' (by
    have:=hL'.len
    omega)
theorem J6(X:MX w lo PS U ix m d k O L)(b:Bool)(z:Unit)(p:Pl){fo:FM}{se:SM}{rs:List Rd}(h:MI w.1.1 PS U O L fo se rs)(hU:p∈U)(hP:p.2.1∈PS):W (lv p w ix d k b m z fo se rs) (LP w PS U ix m d k O L b z p rs):=by
 have hl:=X.wx.cg.rk.len
 have hm:=X.wx.cg.tg.many
 have hi:lo.idxOf p.1≤lo.length:=List.idxOf_le_length
 exact(UF X b z gn).1 p fo se rs h hU hP (by show _≤18446744073709551616;omega)
theorem J7(X:MY w PS U ix d k O)(b:Bool)(z:Unit)(p:Pl)(hf:L p=jT w.1.1 m L p)(hm:¬bE (.int .i64) .bool p.1 (bK m)=true){fo:FM}{se:SM}{rs:List Rd}(h:MI w.1.1 PS U O L fo se rs)(hU:p∈U)(hP:p.2.1∈PS):W (lv p w ix d k b m z fo se rs) (LP w PS U ix m d k O L b z p rs):=by
 have key:∀n,W ((fe (n+1)).1 (p,w,ix,d,k,b,m,z,fo,se,rs,())) (LP w PS U ix m d k O L b z p rs):=fun n=>PH X (fe n).1 (fe n).2 p hf b z h hU hP fun h=>absurd h hm
 exact key 18446744073709551615
theorem J8(X:MY w PS U ix d k O)(b:Bool)(z:Unit)(p:Pl){fo:FM}{se:SM}{rs:List Rd}(h:MI w.1.1 PS U O L fo se rs)(hU:p∈U)(hP:p.2.1∈PS)(ho:W (lv p w ix d k b m z fo se rs) (LP w PS U ix m d k O L b z p rs)):W (iy p w ix d k b m z fo se rs) (LP w PS U ix m d k O L b z p rs):=by
 suffices hW:∃r,iy p w ix d k b m z fo se rs=some r by
  obtain⟨r,er⟩:=hW
  obtain⟨r',er',hr⟩:=ho
  rw[Ki er] at er'
  cases er'
  exact⟨r,er,hr⟩
 have ho:=ho.imp fun r h=>h.1
 unfold iy
 cases hp:de bS p fo with
 |true=>rw[aA rfl];exact ho
 |
  false=>
  rw[aD (by decide)]
  split
  ·rw[PI];exact ho
  ·obtain⟨M,y,x,n,se',rs',e1,e2,e3,hl,_⟩:=PG X.wy p d k b m z h.fi hp hU hP
   have e4:ng n=some n:=rfl
   rw[e1,aK]
   dsimp only
   rw[e2,aK]
   dsimp only
   rw[e4,aK,e3,aK]
   dsimp only
   rw[aA hl]
   exact⟨_,rfl⟩
abbrev Ky:=j7
abbrev Fa:=nV
abbrev iw(a p i:Int)(c:Nat):Ky:=(a,(p,(bB ((bB ((16:Int)*i))+(c:Int)),())))
abbrev kY(a p i d:Int)(c:Nat):Rd:=(iw a p i c,(d,(bB (d+(1:Int)),())))
def sg(d:Int)(r:Rd):Rd:=(r.1,(d,(bB (d+(1:Int)),())))
def DX(s:cH)(a:Int):Bool:=(f147 s a).getD false
def wq(p i:Int):Bool:=(f148 p i).getD false
def J9(s:cH)(a c x:Int):Bool:=(f152 s a c x).getD false
def zI:In:=(0,(0,(0,([],()))))
def nX(s:cH)(V:Ky→Int×Bool)(a p i d:Int):Nat→Nat→List Int→List Rd→An
 |0,_,t,rs=>(true,(a,(p,(i,(t,())))),rs)
 |n+1,c,t,rs=>if((V (iw a p i c)).2&&J9 s a c (V (iw a p i c)).1)=true then nX s V a p i d n (c+1) (t++[(V (iw a p i c)).1]) (rs++[kY a p i d c]) else(false,zI,rs++[kY a p i d c])
def qB(s:cH)(V:Ky→Int×Bool)(a p i d:Int):An:=
 if DX s a=true∧wq p i=true∧0≤d∧d<1024 then nX s V a p i d ((cN s a).length -1) 1 [p] [] else(false,zI,[])
theorem vV{s:cH}{V:Ky→Int×Bool}{a p i d:Int}:∀(n c:Nat)(t:Zf)(rs:List Rd),(∀r∈rs,r∈(nX s V a p i d n c t rs).2.2)∧∀r∈(nX s V a p i d n c t rs).2.2,r∈rs∨∃e,c≤e∧e<c+n∧r=kY a p i d e
 |0,_,_,_=>⟨fun _ h=>h,fun _ h=>Or.inl h⟩
 |
  n+1,c,t,rs=>by
  unfold nX
  have hl:∀r∈rs++[kY a p i d c],r∈rs∨∃e,c≤e∧e<c+(n+1)∧r=kY a p i d e:=fun r hr=>(List.mem_append.1 hr).imp id fun h=>⟨c,dD _,by omega,List.mem_singleton.1 h⟩
  split
  ·obtain⟨h1,h2⟩:=vV (s:=s) (V:=V) (a:=a) (p:=p) (i:=i) (d:=d) n (c+1) (t++[(V (iw a p i c)).1]) (rs++[kY a p i d c])
   exact⟨fun r hr=>h1 r (kf _ hr),fun r hr=>(h2 r hr).elim (hl r) fun⟨e,e1,e2,e3⟩=>Or.inr ⟨e,by omega,by omega,e3⟩⟩
  ·exact⟨fun r hr=>kf _ hr,hl⟩
theorem By{s:cH}{V V':Ky→Int×Bool}{a p i d d':Int}:∀(n c:Nat)(t:Zf)(rs:List Rd),(∀r∈(nX s V a p i d n c t rs).2.2,V' r.1=V r.1)→nX s V' a p i d' n c t (rs.map (sg d'))=((nX s V a p i d n c t rs).1,(nX s V a p i d n c t rs).2.1,(nX s V a p i d n c t rs).2.2.map (sg d'))
 |0,_,_,_,_=>rfl
 |
  n+1,c,t,rs,h=>by
  have hm:kY a p i d c∈(nX s V a p i d (n+1) c t rs).2.2:=by
   unfold nX
   split
   ·exact(vV n (c+1) _ _).1 _ (rZ _ (List.mem_singleton.2 rfl))
   ·exact rZ _ (List.mem_singleton.2 rfl)
  have e:V' (iw a p i c)=V (iw a p i c):=h _ hm
  have em:rs.map (sg d')++[kY a p i d' c]=(rs++[kY a p i d c]).map (sg d'):=by rw[r9];rfl
  unfold nX at h ⊢
  rw[e,em]
  split
  ·rename_i hc
   rw[aA hc] at h
   exact By n (c+1) _ _ h
  ·rfl
theorem Bz{s:cH}{V:Ky→Int×Bool}{a p i d:Int}{r:Rd}(h:r∈(qB s V a p i d).2.2):(∃c,c<(cN s a).length∧r=kY a p i d c)∧DX s a=true∧wq p i=true∧0≤d∧d<1024:=by
 unfold qB at h
 split at h
 ·rename_i hc
  refine⟨?_,hc⟩
  rcases(vV _ _ _ _).2 r h with h|⟨e,e1,e2,e3⟩
  ·cases h
  ·exact⟨e,by omega,e3⟩
 ·cases h
theorem vW{s:cH}{V V':Ky→Int×Bool}{a p i d d':Int}(hd:0≤d∧d<1024↔0≤d'∧d'<1024)(h:∀r∈(qB s V a p i d).2.2,V' r.1=V r.1):qB s V' a p i d'=((qB s V a p i d).1,(qB s V a p i d).2.1,(qB s V a p i d).2.2.map (sg d')):=by
 unfold qB at h ⊢
 by_cases hc:DX s a=true∧wq p i=true∧0≤d∧d<1024
 ·rw[aA hc] at h ⊢
  rw[aA ⟨hc.1,hc.2.1,hd.1 hc.2.2⟩]
  exact By _ _ _ [] h
 ·rw[aD hc,aD fun hc'=>hc ⟨hc'.1,hc'.2.1,hd.2 hc'.2.2⟩]
  rfl
theorem BA{s:cH}{V:Ky→Int×Bool}{a p i d:Int}:(qB s V a p i d).2.2.map (sg d)=(qB s V a p i d).2.2:=by
 have h:=vW (s:=s) (V:=V) (V':=V) (a:=a) (p:=p) (i:=i) Iff.rfl (d:=d) fun _ _=>rfl
 exact(congrArg (fun x:An=>x.2.2) h).symm
theorem Ho(v:cD)(s:cH)(hN:NB s)(hl:v.2.1.length≤aG)(c:Nat)(a p i d k:Int)(rs:List Rd)(hr:(rs.length+1)*40≤aG):
 nP (c:Int) a p i d v k s rs=some ((pn v.2.1 (iw a p i c) d k).1,((pn v.2.1 (iw a p i c) d k).2&&J9 s a c (pn v.2.1 (iw a p i c) d k).1),a,p,i,d,v,k,s,rs++[kY a p i d c]):=by
 have e:rU v.2.1 (a,(p,(bB ((bB ((16:Int)*i))+(c:Int)),()))) d k=some (pn v.2.1 (iw a p i c) d k):=aA hl
 unfold nP f150
 rw[aK,aA (by rw[cY];exact hr),e,aK]
 generalize pn v.2.1 (iw a p i c) d k=r
 obtain⟨x,b⟩:=r
 dsimp only
 cases b with
 |false=>rfl
 |
  true=>
  obtain⟨q,hq⟩:=rL s hN a (c:Int) x
  unfold J9
  rw[aA rfl,hq]
  rfl
theorem F8(p i:Int):f148 p i=some (wq p i)∧(wq p i=true→0≤i∧i<4):=by
 have hs:∃z,f148 p i=some z∧(z=true→0≤i∧i<4):=by
  unfold f148
  have no:∀y:Zo,y=some false→∃z,y=some z∧(z=true→0≤i∧i<4):=fun y hy=>⟨false,hy,fun h=>(by cases h)⟩
  by_cases i0:0≤i
  ·by_cases i1:i<4
   ·have yes:∀y:Zo,(∃z,y=some z)→∃z,y=some z∧(z=true→0≤i∧i<4):=fun y ⟨z,hz⟩=>⟨z,hz,fun _=>⟨i0,i1⟩⟩
    apply yes
    refine fq ?_ fun v=>⟨v,rfl⟩
    repeat' (first|exact⟨_,rfl⟩|split)
   ·rw[cU i0,dZ i1]
    apply no
    split
    ·split<;>rfl
    ·rfl
  ·rw[dZ i0]
   apply no
   split
   ·split<;>rfl
   ·rfl
 obtain⟨z,e,h⟩:=hs
 have e2:wq p i=z:=by unfold wq;rw[e];rfl
 rw[e2]
 exact⟨e,h⟩
theorem Oq(v:cD)(hN:NB v.1.1)(hR:v.1.1.2.2.2.1.length≤aG)(hF:∀a,0≤a→a<(v.1.1.2.2.1.length:Int)→(cN v.1.1 a).length≤1000)(hl:v.2.1.length≤aG)(a p i d k:Int):
 f77 v a p i d k=some (qB v.1.1 (fun q=>pn v.2.1 q d k) a p i d):=by
 have hB:=hB
 suffices hW:W (f77 v a p i d k) fun r=>r=qB v.1.1 (fun q=>pn v.2.1 q d k) a p i d by
  obtain⟨r,e,rfl⟩:=hW
  exact e
 obtain⟨b,e,hb⟩:=kv v.1.1 hR a
 have eb:DX v.1.1 a=b:=by unfold DX;rw[e];rfl
 obtain⟨hz,_⟩:=F8 p i
 unfold f77 qB
 rw[e,aK,eb]
 cases b with
 |false=>exact⟨_,rfl,(aD fun h=>(by cases h.1)).symm⟩
 |
  true=>
  obtain⟨a0,a1,a2⟩:=hb rfl
  rw[aD (by decide),hz,aK]
  cases wq p i with
  |false=>exact⟨_,rfl,(aD fun h=>(by cases h.2.1)).symm⟩
  |
   true=>
   rw[aD (by decide)]
   by_cases d0:d<0
   ·rw[db d0];exact⟨_,rfl,(aD fun h=>by omega).symm⟩
   ·rw[aD (show¬decide (d<(0:Int))=true by simpa using d0)]
    by_cases d1:(1024:Int)≤d
    ·rw[cU d1];exact⟨_,rfl,(aD fun h=>by omega).symm⟩
    ·rw[dZ d1,aK,aD (by decide),aJ,aA ⟨rfl,rfl,by omega,by omega⟩]
     dsimp only
     have hFa:=hF a a0 a1
     have e:(nth aU v.1.1.2.2.1 a).2.2.2.2.1=cN v.1.1 a:=rfl
     let Y:Nat→List Int→List Rd→An:=fun c t s=>nX v.1.1 (fun q=>pn v.2.1 q d k) a p i d ((cN v.1.1 a).length -c) c t s
     refine bY.2 (W.ct (W.mono (uK (L:=DN) rfl (fun c(u:List Int×List Rd)(r:cV _ _)=>CT (fun r=>∃t s,r=(a,p,i,(0:Int),(0:Int),(0:Int),t,s)∧Y c u.1 u.2=(true,(a,(p,(i,(t,())))),s)) (fun r=>r=Y c u.1 u.2) r) (cN v.1.1 a).length (fun c(u:List Int×List Rd)=>((c:Int),v,a,p,i,d,k,(0:Int),(0:Int),(0:Int),v.1.1,u.1,u.2)) (fun c u=>u.1.length≤c∧u.2.length≤c) ?step ?stop gn 1 ([p],[]) (by show _<18446744073709551616;omega) (by omega) ⟨dD _,fR _⟩) fun r hr=>hr) (fun r hr=>?_) fun r hr=>hr)
     case step=>
      rintro rec c ⟨t,s⟩ hc ⟨ht,hs⟩ kk
      dsimp only at ht hs ⊢
      have hw2:=nE c (by omega)
      rw[e,aA a0,aA a1,db (by omega),Ho v v.1.1 hN hl c a p i d k s (by omega),aK]
      have eY:Y c t s=if((pn v.2.1 (iw a p i c) d k).2&&J9 v.1.1 a c (pn v.2.1 (iw a p i c) d k).1)=true then Y (c+1) (t++[(pn v.2.1 (iw a p i c) d k).1]) (s++[kY a p i d c]) else(false,zI,s++[kY a p i d c]):=by
       show nX _ _ _ _ _ _ _ _ _ _=_
       rw[show(cN v.1.1 a).length -c=((cN v.1.1 a).length -(c+1))+1 by omega]
       rfl
      rw[eY]
      dsimp only
      cases(pn v.2.1 (iw a p i c) d k).2&&J9 v.1.1 a c (pn v.2.1 (iw a p i c) d k).1 with
      |false=>exact⟨_,rfl,rfl⟩
      |
       true=>
       rw[aD (by decide),aA rfl,aA (show(t.length+List.length [_])*8≤aG by rw[cY];omega),hw2]
       exact kk (_,_) ⟨by rw[eI,cY];omega,by rw[eI,cY];omega⟩
     case stop=>
      rintro rec ⟨t,s⟩ _
      dsimp only
      rw[e,aA a0,aA a1,gY (by omega)]
      refine⟨_,rfl,t,s,rfl,?_⟩
      show nX _ _ _ _ _ _ (_ -_) _ _ _=_
      rw[Nat.sub_self]
      rfl
     ·obtain⟨t,s,rfl,h⟩:=hr
      exact⟨_,rfl,h.symm⟩
theorem BB{β:Type}{g:Nat→List β}:∀n:Nat,(∀c<n,g c= [])→(List.range n).flatMap g= []
 |0,_=>rfl
 |
  n+1,h=>by
  rw[List.range_succ,List.flatMap_append,BB n fun c hc=>h c (by omega),List.flatMap_cons,List.flatMap_nil,h n (by omega)]
  rfl
theorem BC{β:Type}{g:Nat→List β}{c:Nat}:∀n:Nat,c<n→(∀x<n,x≠c→g x= [])→(List.range n).flatMap g=g c
 |0,h,_=>by omega
 |
  n+1,h,hx=>by
  rw[List.range_succ,List.flatMap_append,List.flatMap_cons,List.flatMap_nil,ik]
  by_cases e:c=n
  ·subst e
   rw[BB _ fun x hx'=>hx x (by omega) (by omega),List.nil_append]
  ·rw[BC n (by omega) fun x hx'=>hx x (by omega),hx n (by omega) (by omega),ik]
def rG(s:cH)(l:List Fa)(p:Pl):List Fa:=if 0≤p.1∧p.1<(s.2.2.1.length:Int) then(List.range (cN s p.1).length).flatMap fun(c:Nat)=>lQ (iw p.1 p.2.1 p.2.2.1 c) l else[]
theorem Hp(s:cH)(l:List Fa)(ix:List (Ky×List Fa))(h:∀key,bE bS (.slice 64 dq) key ix=lQ key l)(p:Pl):iS s (some ix) p=rG s l p:=by
 have e:(fun(c:Nat)=>bE bS (.slice 64 dq) (p.1,(p.2.1,(bB ((bB ((16:Int)*p.2.2.1))+(c:Int)),()))) (bK (some ix)))=fun(c:Nat)=>lQ (iw p.1 p.2.1 p.2.2.1 c) l:=funext fun c=>h _
 unfold iS rG
 rw[e]
theorem Ka{a p i:Int}(i0:0≤i)(i1:i<4){c e:Nat}(hc:c≤1000)(he:e≤1000)(h:iw a p i c=iw a p i e):c=e:=by
 have h1:bB ((bB ((16:Int)*i))+(c:Int))=bB ((bB ((16:Int)*i))+(e:Int)):=congrArg (fun k:Ky=>k.2.2.1) h
 rw[ib (x:=(16:Int)*i) (by omega) (by omega),ib (by omega) (by omega),ib (by omega) (by omega)] at h1
 omega
theorem Kb(s:cH)(l:List Fa){a p i:Int}(a0:0≤a)(a1:a<(s.2.2.1.length:Int))(hF:(cN s a).length≤1000)(i0:0≤i)(i1:i<4){c:Nat}(hc:c<(cN s a).length)(d k:Int):
 pn (rG s l (a,(p,(i,())))) (iw a p i c) d k=pn l (iw a p i c) d k:=by
 have e:(rG s l (a,(p,(i,())))).filter (jq (iw a p i c) k)=l.filter (jq (iw a p i c) k):=by
  have e1:rG s l (a,(p,(i,())))=(List.range (cN s a).length).flatMap fun(c:Nat)=>lQ (iw a p i c) l:=aA ⟨a0,a1⟩
  rw[e1,List.filter_flatMap]
  rw[BC (c:=c) _ hc fun x hx hne=>?_]
  ·unfold lQ
   rw[List.filter_filter]
   refine List.filter_congr fun x _=>?_
   unfold jq
   cases aY bS x.1 (iw a p i c)<;>simp
  ·unfold lQ
   rw[List.filter_filter]
   refine List.filter_eq_nil_iff.2 fun y _=>?_
   intro h
   have h:=Bool.and_eq_true_iff.1 h
   have h1:=(Bool.and_eq_true_iff.1 h.1).1
   have q1:=(iG bS y.1 (iw a p i c)).1 h1
   have q2:=(iG bS y.1 (iw a p i x)).1 h.2
   exact hne (Ka i0 i1 (by omega) (by omega) (q2.symm.trans q1))
 unfold pn jK
 rw[e]
def Oa(w:cD)(d k:Int)(p:Pl):An:=qB w.1.1 (fun q=>pn w.2.1 q d k) p.1 p.2.1 p.2.2.1 d
theorem MYo{w:cD}{PS:Zf}{U:List Pl}{ix:List (Ky×List Fa)}(hw:WY w PS U (some ix))(_hf:w.2.1.length≤1000)(h:∀key,bE bS (.slice 64 dq) key ix=lQ key w.2.1)(d k:Int):MY w PS U (some ix) d k (Oa w d k):=by
 have hB:=hB
 refine⟨hw,fun p hP=>?_⟩
 have hpl:(iS w.1.1 (some ix) p).length≤aG:=by
  obtain⟨L,e,hL,_⟩:=Bv hw p d k true none () [] [] []
  rw[F7 hw p d k true none () [] [] []] at e
  have e:=ja e
  simp only[il,true_and,and_true] at e
  rw[e]
  omega
 rw[Oq (w.1,(iS w.1.1 (some ix) p,())) hw.sw.nb hw.sw.rules hw.fl hpl,Hp w.1.1 w.2.1 ix h]
 unfold Oa
 rw[vW (d':=d) Iff.rfl (V:=fun q=>pn w.2.1 q d k) (V':=fun q=>pn (rG w.1.1 w.2.1 p) q d k) fun r hr=>?_,BA]
 obtain⟨⟨c,hc,rfl⟩,h1,h2,_⟩:=Bz hr
 obtain⟨b,eb,hb⟩:=kv w.1.1 hw.sw.rules p.1
 have h1:b=true:=by unfold DX at h1;rw[eb] at h1;exact h1
 obtain⟨a0,a1,_⟩:=hb h1
 obtain⟨i0,i1⟩:=(F8 _ _).2 h2
 exact Kb w.1.1 w.2.1 (p:=p.2.1) a0 a1 (hw.fl _ a0 a1) i0 i1 hc d k
theorem MXo{w:cD}{lo PS:Zf}{U:List Pl}{ix:List (Ky×List Fa)}(hw:WX w lo PS U (some ix))(hf:w.2.1.length≤1000)(h:∀key,bE bS (.slice 64 dq) key ix=lQ key w.2.1)(m:DM)(d k:Int):MX w lo PS U (some ix) m d k (Oa w d k) (LQ w.1.1 m lo):=⟨hw,MYo hw.y hf h d k,J4 hw.cg.rk.pre m⟩
variable{w:cD} {lo PS:Zf} {U:List Pl} {ix:Ix} {m:DM} {d k:Int} {O:Pl→An} {L:Pl→Qy Rs}
def vX(b:Bool)(m:DM)(a p d:Int):Bool:=b&&(bE (.int .i64) .bool a (bK m)&&(decide ((0:Int)≤p)&&(decide (p<(4096:Int))&&(decide ((0:Int)≤d)&&decide (d<(1024:Int))))))
theorem Kc(a p:Int)(w:cD)(ix:Ix)(d k:Int)(b:Bool)(m:DM)(z:Unit)(fo:FM)(se:SM)(rs:List Rd):
 uM a p w ix d k b m z fo se rs=some (vX b m a p d,w,ix,d,k,b,m,z,fo,se,rs):=by
 unfold uM vX
 cases b<;>cases bE (.int .i64) .bool a (bK m)<;>cases decide ((0:Int)≤p)<;>cases decide (p<(4096:Int))<;>cases decide ((0:Int)≤d)<;>cases decide (d<(1024:Int))<;>rfl
def Pg(b:Bool)(m:DM)(a p d i:Int):Bool:= !bE (.int .i64) .bool a (bK m)||(decide (i=0)&&vX b m a p d)
def Uu(w:cD)(p a:Int):List Pl:=((List.range 4).map fun(j:Nat)=>(a,(p,((j:Int),()))))++Uo w p (a,(p,((0:Int),())))
theorem R3(w:cD)(p a:Int){i:Int}(h0:0≤i)(h1:i<4):(a,(p,(i,())))∈Uu w p a:=
 kf _ (List.mem_map.2 ⟨i.toNat,List.mem_range.2 (by omega),by rw[show((i.toNat:Nat):Int)=i by omega]⟩)
theorem DY{w:cD}(p a:Int)(hT:FT w.1.1)(hf:w.2.1.length≤60):(Uu w p a).length≤2200:=by
 have:=J3 p (a,(p,((0:Int),()))) hT hf
 unfold Uu
 rw[eI,iD,List.length_range]
 omega
theorem WXu{w:cD}{lo:Zf}(hc:CG w.1.1 lo)(hT:FT w.1.1)(hf:w.2.1.length≤60)(p a:Int){ix:Ix}(hix:IX (Bw w p) ix):WX w lo (Bw w p) (Uu w p a) ix:=
 {WXo hc hT hf p (a,(p,((0:Int),()))) hix with
  pl:=fun b q i h0 h1 h2 h3 h4=>rZ _ ((WXo hc hT hf p (a,(p,((0:Int),()))) hix).pl b q i h0 h1 h2 h3 h4)
  len:=dp (DY p a hT hf) (by decide)}
theorem WYu{w:cD}(hs:SA w.1.1)(hT:FT w.1.1)(hf:w.2.1.length≤60)(p a:Int){ix:Ix}(hix:IX (Bw w p) ix):WY w (Bw w p) (Uu w p a) ix:=
 ⟨hs.sw,dp (DY p a hT hf) (by decide),fun a a0 a1=>dp (hT.fields _ (dw (t:=aU) (l:=w.1.1.2.2.1) a0 a1)) (by decide),hix⟩
theorem IXo{w:cD}(hf:w.2.1.length≤60)(p:Int){ix:List (Ky×List Fa)}(h:∀key,bE bS (.slice 64 dq) key ix=lQ key w.2.1):IX (Bw w p) (some ix):=fun key=>by
 have e:bE bS (.slice 64 dq) key (bK (some ix))=lQ key w.2.1:=h key
 have hle:(lQ key w.2.1).length≤w.2.1.length:=xA ..
 rw[e]
 exact⟨by omega,fun f hf=>eH _ (eH _ (kf _ (List.mem_map.2 ⟨f,(List.mem_filter.1 hf).1,rfl⟩)))⟩
abbrev dM(w:cD):DM:=some (vS w.1.1.2.2.2.1)
def LL(w:cD)(lo:Zf)(r:Int):Pl→Qy Rs:=if r=0 then LQ w.1.1 (dM w) lo else jT w.1.1 (dM w) fun _=>.ret zR
theorem Kd{w:cD}(hs:SA w.1.1)(hT:FT w.1.1)(hf:w.2.1.length≤60){lo:Zf}{r:Int}(hcg:r=0→CG w.1.1 lo)(a0 a p:Int){ix:List (Ky×List Fa)}(h:∀key,bE bS (.slice 64 dq) key ix=lQ key w.2.1)(d k:Int)(z:Unit){i:Int}(hU:(a,(p,(i,())))∈Uu w p a0)(hl:Pg (decide (r=0)) (dM w) a p d i=true)(fo:FM)(se:SM)(rs:List Rd)(hI:MI w.1.1 (Bw w p) (Uu w p a0) (Oa w d k) (LL w lo r) fo se rs):
 W (iy (a,(p,(i,()))) w (some ix) d k (decide (r=0)) (dM w) z fo se rs) (LP w (Bw w p) (Uu w p a0) (some ix) (dM w) d k (Oa w d k) (LL w lo r) (decide (r=0)) z (a,(p,(i,()))) rs):=by
 have hP:p∈Bw w p:=eH _ (dK ..)
 have hix:=IXo hf p h
 have Y:=MYo (WYu hs hT hf p a0 hix) (by omega) h d k
 refine J8 Y _ z _ hI hU hP ?_
 by_cases hm:bE (.int .i64) .bool a (bK (dM w))=true
 ·have hr:r=0:=by
   refine Classical.byContradiction fun hr=>?_
   unfold Pg vX at hl
   rw[hm,dZ hr] at hl
   simp at hl
  have X:=MXo (WXu (hcg hr) hT hf p a0 hix) (by omega) h (dM w) d k
  have e:LL w lo r=LQ w.1.1 (dM w) lo:=aA hr
  rw[e] at hI ⊢
  exact J6 X _ z _ hI hU hP
 ·refine J7 Y _ z _ ?_ hm hI hU hP
  unfold LL
  by_cases hr:r=0
  ·rw[aA hr];exact J4 (hcg hr).rk.pre _ _
  ·rw[aD hr]
   unfold jT
   rw[aD hm,aD hm]
theorem rH{ch:Ru→Qy (Bool×List In)}{bd:Ru→List In→In}{R:List Ru}{a:Int}{O:Pl→An}:∀n c,((gk ch bd R a n c).run O).1.2.2.2.1=true∨((gk ch bd R a n c).run O).1=zR
 |0,_=>Or.inr rfl
 |
  n+1,c=>by
  unfold gk
  split
  ·rw[Qy.run_bind]
   dsimp only
   split
   ·exact Or.inl rfl
   ·exact rH n (c+1)
  ·exact rH n (c+1)
theorem UG{w:cD}(hs:SA w.1.1)(hT:FT w.1.1)(hf:w.2.1.length≤60){lo:Zf}{r:Int}(er:f6 w.1=some r)(hcg:r=0→CG w.1.1 lo)(a p d k:Int):
 f8 w a p d k=some (if vX (decide (r=0)) (dM w) a p d=true then(eV [] ((LL w lo r (a,(p,(0,())))).run (Oa w d k)).2,((LL w lo r (a,(p,(0,())))).run (Oa w d k)).1.2.2.2.1,((LL w lo r (a,(p,(0,())))).run (Oa w d k)).1.1) else([],false,zI))∧
 (vX (decide (r=0)) (dM w) a p d=true→((LL w lo r (a,(p,(0,())))).run (Oa w d k)).1.1.2.2.2.1.length≤1000)∧
 (vX (decide (r=0)) (dM w) a p d=true→(eV [] ((LL w lo r (a,(p,(0,())))).run (Oa w d k)).2).length≤2200000∧FG ((LL w lo r (a,(p,(0,())))).run (Oa w d k)).1):=by
 obtain⟨ix,e1,h1⟩:=R0 w (by omega) hs.sw.rules d k (decide (r=(0:Int)))
 unfold f8 f23
 rw[er,aK,e1,aK]
 dsimp only
 rw[Kc,aK]
 dsimp only
 cases hi:vX (decide (r=(0:Int))) (dM w) a p d with
 |false=>exact⟨rfl,fun h=>(by cases h),fun h=>(by cases h)⟩
 |
  true=>
  rw[aD (show¬(!true)=true by decide),aA rfl]
  obtain⟨x,ex,fo,se,rfl,hI,hx,hg⟩:=Kd hs hT hf hcg a a p h1 d k () (i:=0) (R3 w p a (by omega) (by omega)) (by unfold Pg;rw[hi];cases bE (.int .i64) .bool a (bK (dM w))<;>rfl) [] [] [] (MI.nil _ _ _ _ _)
  rw[ex]
  have hU:=DY p a hT hf
  have hl:=hI.fi.len
  have hr:=hI.fi.rs
  refine⟨rfl,fun _=>?_,fun _=>⟨by omega,hg⟩⟩
  unfold vX at hi
  rw[aW,aW] at hi
  obtain⟨hr,hm,_⟩:=hi
  have hr:=ki hr
  obtain⟨u,hu,hua⟩:=J2 a _ hm
  have hR:=(hcg hr).tg.rules u hu
  have gL:((LL w lo r (a,(p,(0,())))).run (Oa w d k)).1.2.2.2.1=true∨((LL w lo r (a,(p,(0,())))).run (Oa w d k)).1=zR:=by
   unfold LL
   rw[aA hr,J4 (hcg hr).rk.pre]
   unfold jT
   rw[aA hm]
   exact rH _ _
  rcases gL with h|h
  ·rw[(hx h).1,←hua]
   exact dp (hT.fields _ (dw (t:=aU) (l:=w.1.1.2.2.1) hR.h0 hR.h1)) (by decide)
  ·rw[h];exact fR _
theorem wJ(l:Zf)(hl:l.length≤1000000000):f24 l l=some true:=by
 have hB:=hB
 suffices hW:W (f24 l l) fun r=>r=true by
  obtain⟨r,e,rfl⟩:=hW
  exact e
 unfold f24
 rw[aD (show¬(!decide ((l.length:Int)=(l.length:Int)))=true by simp)]
 refine bY.2 (W.ct (di (L:=IM) rfl (CT (fun _=>True) fun r=>r=true) l.length (fun c(_:Unit)=>(l,l,(c:Int))) (fun _ _=>True) ?step ?stop gn 0 () (by show _<18446744073709551616;omega) (by omega) trivial) (fun d _=>⟨_,rfl,rfl⟩) fun r hr=>hr)
 case step=>
  intro rec c _ hc _ kk
  dsimp only
  have hw2:=nE c (by omega)
  have hcc:(c:Int)<(l.length:Int):=by omega
  rw[db hcc,fP c,aA hcc,fP c,aA hcc,aD (show¬(!decide (nth (.int .i64) l (c:Int)=nth (.int .i64) l (c:Int)))=true by simp),hw2]
  exact kk () trivial
 case stop=>
  intro rec _ _
  dsimp only
  rw[gY (by omega)]
  exact⟨_,rfl,trivial⟩
theorem ky(x:In)(h:x.2.2.2.1.length≤1000000000):f9 x x=some true:=by
 unfold f9
 rw[cU rfl,aA rfl,cU rfl,aA rfl,cU rfl,aA rfl,wJ _ h]
 rfl
theorem mb(l:List Rd)(hl:l.length≤1000000000):f10 l l=some true:=by
 have hB:=hB
 suffices hW:W (f10 l l) fun r=>r=true by
  obtain⟨r,e,rfl⟩:=hW
  exact e
 unfold f10
 rw[aD (show¬(!decide ((l.length:Int)=(l.length:Int)))=true by simp)]
 refine bY.2 (W.ct (di (L:=JX) rfl (CT (fun _=>True) fun r=>r=true) l.length (fun c(_:Unit)=>(l,l,(c:Int))) (fun _ _=>True) ?step ?stop gn 0 () (by show _<18446744073709551616;omega) (by omega) trivial) (fun d _=>⟨_,rfl,rfl⟩) fun r hr=>hr)
 case step=>
  intro rec c _ hc _ kk
  dsimp only
  have hw2:=nE c (by omega)
  have hcc:(c:Int)<(l.length:Int):=by omega
  rw[db hcc,fP c,aA hcc,fP c,aA hcc,(iG bJ _ _).2 rfl,aD (by decide),hw2]
  exact kk () trivial
 case stop=>
  intro rec _ _
  dsimp only
  rw[gY (by omega)]
  exact⟨_,rfl,trivial⟩
def Hq(U:ZJ)(x:Int):Zf:=nth (.slice 8 (.int .i64)) U x
structure UR(U:ZJ)(m:Nat):Prop where
 len:U.length=m
 small:m≤1000000
 row:∀x:Int,0≤x→x<(m:Int)→(Hq U x).length≤m∧∀y∈Hq U x,0≤y∧y<(m:Int)
theorem xO{g:jf}{m:Nat}{x:Int}(h0:0≤x)(h1:x<(m:Int)):Hq (us g m m) x=((List.range m).filter fun h:Nat=>decide (x∈ks g (h:Int))).map fun h:Nat=>(h:Int):=by
 have e:x=((x.toNat:Nat):Int):=by omega
 unfold Hq
 rw[e,ew (t:=.slice 8 (.int .i64)) (by rw[nj];omega)]
 simp only[us,List.getElem_map,List.getElem_range]
theorem UH{g:jf}{m:Nat}(hg:GG g m):UR (us g m m) m:=⟨nj g m m,hg.small,fun x h0 h1=>by
 rw[xO h0 h1]
 refine⟨?_,fun y hy=>?_⟩
 ·rw[iD]
  exact dp (xA _ _) (by simp)
 ·obtain⟨h,hh,rfl⟩:=List.mem_map.1 hy
  have:=List.mem_range.1 (List.mem_filter.1 hh).1
  omega⟩
theorem R4{g:jf}{m:Nat}{x h:Int}(h0:0≤x)(h1:x<(m:Int))(g0:0≤h)(g1:h<(m:Int))(hk:x∈ks g h):h∈Hq (us g m m) x:=by
 rw[xO h0 h1]
 have e:((h.toNat:Nat):Int)=h:=by omega
 exact List.mem_map.2 ⟨h.toNat,List.mem_filter.2 ⟨List.mem_range.2 (by omega),cU (by rw[e];exact hk)⟩,e⟩
abbrev KJ:=ZR
structure BK(m:Nat)(n:KJ):Prop where
 oB:(n.map (·.1)).Nodup
 w6:∀x∈n.map (·.1),0≤x∧x<(m:Int)
theorem BK.len{m:Nat}{n:KJ}(h:BK m n):n.length≤m:=by
 have:=fU m _ h.oB h.w6
 rwa [iD] at this
structure BN(m:Nat)(n0 n:KJ)(e:Zf):Prop where
 bk:BK m n
 qG:∀x∈n0.map (·.1),x∈n.map (·.1)
 new:∀x∈n.map (·.1),x∈n0.map (·.1)∨x∈e
 sub:∀x∈e,x∈n.map (·.1)
 xP:e.length+n0.length=n.length
theorem BN.put{m:Nat}{n0 n:KJ}{e:Zf}(h:BN m n0 n e){x d:Int}(h0:0≤x)(h1:x<(m:Int))(hx:x∉n.map (·.1)):BN m n0 (bF (.int .i64) x d n) (e++[x]) where
 bk:=⟨dP (kt:=.int .i64) rfl h.bk.oB,fun y hy=>by
  rcases dS.1 hy with rfl|hy
  ·exact⟨h0,h1⟩
  ·exact h.bk.w6 y hy⟩
 qG y hy:=dS.2 (Or.inr (h.qG y hy))
 new y hy:=by
  rcases dS.1 hy with rfl|hy
  ·exact Or.inr (rZ _ (List.mem_singleton.2 rfl))
  ·exact(h.new y hy).imp id (kf _)
 sub y hy:=by
  rcases List.mem_append.1 hy with hy|hy
  ·exact dS.2 (Or.inr (h.sub y hy))
  ·exact dS.2 (Or.inl (List.mem_singleton.1 hy))
 xP:=by
  rw[kO (kt:=.int .i64) rfl hx,eI,eI,cY,cY]
  have:=h.xP
  omega
theorem R5{U:ZJ}{m:Nat}(hsm:m≤1000000)(g h i:Int)(c lay:Zf)(hc:c.length≤m)(hr:∀y∈c,0≤y∧y<(m:Int))(n0:KJ){n:KJ}{e:Zf}(hI:BN m n0 n e):
 W (oN (Int.toNat (c.length:Int)+1) (U,g,h,i,c,(c.length:Int),(0:Int),n,e,lay)) (CT (fun r=>∃n' e',r=(U,g,h,i,n',e',lay)∧BN m n0 n' e'∧(∀x∈n.map (·.1),x∈n'.map (·.1))∧∀x∈c,x∈n'.map (·.1)) fun _=>False):=by
 have hB:=hB
 refine di (L:=oN) rfl _ c.length (fun a(s:KJ×List Int)=>(U,g,h,i,c,(c.length:Int),(a:Int),s.1,s.2,lay)) (fun a s=>BN m n0 s.1 s.2∧(∀x∈n.map (·.1),x∈s.1.map (·.1))∧∀x∈c.take a,x∈s.1.map (·.1)) ?step ?stop _ 0 (n,e) (by omega) (by omega) ⟨hI,fun _ h=>h,fun x hx=>(by cases hx)⟩
 case step=>
  rintro rec a ⟨n,e⟩ ha ⟨h1,h2,h3⟩ kk
  dsimp only at h1 h2 h3 ⊢
  have hw2:=nE a (by omega)
  obtain⟨r0,r1⟩:=hr _ (kg ha)
  have ht:=(List.take_append_getElem ha).symm
  have hlen:=h1.bk.len
  have hcnt:=h1.xP
  rw[db (by omega),fP a,aA (show(a:Int)<(c.length:Int) by omega),ew (t:=.int .i64) ha]
  cases hm:de (.int .i64) c[a] n with
  |
   true=>
   rw[aD (by decide),hw2]
   refine kk (n,e) ⟨h1,h2,fun x hx=>?_⟩
   rw[ht,i7,jP] at hx
   rcases hx with hx|rfl
   ·exact h3 x hx
   ·exact(eR (kt:=.int .i64) rfl).1 hm
  |
   false=>
   have hno:c[a]∉n.map (·.1):=fun h=>by
    have:=(eR (kt:=.int .i64) rfl).2 h
    rw[hm] at this;cases this
   rw[aA (show(!false)=true from rfl),aA (show n.length+1≤aG by omega),aA (show(e.length+List.length [c[a]])*8≤aG by rw[cY];omega),hw2]
   refine kk (_,_) ⟨h1.put r0 r1 hno,fun x hx=>dS.2 (Or.inr (h2 x hx)),fun x hx=>?_⟩
   rw[ht,i7,jP] at hx
   rcases hx with hx|rfl
   ·exact dS.2 (Or.inr (h3 x hx))
   ·exact dS.2 (Or.inl rfl)
 case stop=>
  rintro rec ⟨n,e⟩ ⟨h1,h2,h3⟩
  dsimp only at h1 h2 h3 ⊢
  rw[gY (by omega)]
  rw[List.take_length] at h3
  exact⟨_,rfl,n,e,rfl,h1,h2,h3⟩
theorem Ke{U:ZJ}{m:Nat}(hU:UR U m)(k:Int)(lay:Zf)(hl:∀x∈lay,0≤x∧x<(m:Int))(hll:lay.length≤1000001){n:KJ}(hn:BK m n):
 W (qS (Int.toNat (lay.length:Int)+1) (U,k,(lay.length:Int),(0:Int),n,[],lay)) (CT (fun r=>∃n' e',r=(U,k,n',e')∧BN m n n' e'∧∀x∈lay,∀y∈Hq U x,y∈n'.map (·.1)) fun _=>False):=by
 have hB:=hB
 have hsm:=hU.small
 refine di (L:=qS) rfl _ lay.length (fun a(s:KJ×List Int)=>(U,k,(lay.length:Int),(a:Int),s.1,s.2,lay)) (fun a s=>BN m n s.1 s.2∧∀x∈lay.take a,∀y∈Hq U x,y∈s.1.map (·.1)) ?step ?stop _ 0 (n,[]) (by omega) (by omega) ⟨⟨hn,fun _ h=>h,fun _ h=>Or.inl h,fun x hx=>(by cases hx),dY _⟩,fun x hx=>(by cases hx)⟩
 case step=>
  rintro rec a ⟨n1,e⟩ ha ⟨h1,h2⟩ kk
  dsimp only at h1 h2 ⊢
  have hw2:=nE a (by omega)
  obtain⟨r0,r1⟩:=hl _ (kg ha)
  obtain⟨q1,q2⟩:=hU.row _ r0 r1
  have ht:=(List.take_append_getElem ha).symm
  have r2:lay[a]<(U.length:Int):=by rw[hU.len];exact r1
  rw[db (by omega),fP a,aA (show(a:Int)<(lay.length:Int) by omega),ew (t:=.int .i64) ha,aA r0,aA r2]
  refine bY.2 ((R5 (U:=U) hsm k (lay.length:Int) (a:Int) (Hq U lay[a]) lay q1 q2 n h1).ct (fun r hr=>?_) fun r hr=>hr.elim)
  obtain⟨n',e',rfl,g1,g2,g3⟩:=hr
  dsimp only
  rw[hw2]
  refine kk (n',e') ⟨g1,fun x hx y hy=>?_⟩
  rw[ht,i7,jP] at hx
  rcases hx with hx|rfl
  ·exact g2 _ (h2 x hx y hy)
  ·exact g3 y hy
 case stop=>
  rintro rec ⟨n1,e⟩ ⟨h1,h2⟩
  dsimp only at h1 h2 ⊢
  rw[gY (by omega)]
  rw[List.take_length] at h2
  exact⟨_,rfl,n1,e,rfl,h1,h2⟩
theorem Kf{U:ZJ}{m:Nat}(hU:UR U m)(g:jf)(to:Int)(t0:0≤to)(t1:to<(m:Int)):
 ∃n:KJ,uJ g U to=some n∧BK m n∧∀x,x=to∨x∈n.map (·.1)→∀y∈Hq U x,y∈n.map (·.1):=by
 have hB:=hB
 have hsm:=hU.small
 suffices hW:W (uJ g U to) fun n:KJ=>BK m n∧∀x,x=to∨x∈n.map (·.1)→∀y∈Hq U x,y∈n.map (·.1) from hW
 unfold uJ
 let I:List (Zf)×Int×KJ×List Int→Prop:=fun s=>s.1=U∧BK m s.2.2.1∧(∀x∈s.2.2.2,0≤x∧x<(m:Int))∧s.2.2.2.length≤1000001∧∀x,x=to∨x∈s.2.2.1.map (·.1)→x∉s.2.2.2→∀y∈Hq U x,y∈s.2.2.1.map (·.1)
 let μ:List (Zf)×Int×KJ×List Int→Nat:=fun s=>2*(m -s.2.2.1.length)+s.2.2.2.length.min 1
 refine bY.2 ((W.iter (P:=CT (fun n:KJ=>BK m n∧∀x,x=to∨x∈n.map (·.1)→∀y∈Hq U x,y∈n.map (·.1)) fun _=>False) I μ ?step gn (U,(1:Int),[],[to]) ⟨rfl,⟨List.nodup_nil,fun x hx=>(by cases hx)⟩,fun x hx=>?_,by simp,fun x hx hno=>?_⟩ ?mu).ct (fun n hn=>⟨_,rfl,hn⟩) fun r hr=>hr.elim)
 case step=>
  rintro rec ⟨V,k,n,lay⟩ ⟨e1,h1,h2,h3,h4⟩ kk
  dsimp only at e1 h1 h2 h3 h4 ⊢
  subst e1
  by_cases hl:0<lay.length
  ·rw[db (by omega)]
   refine bY.2 (bY.2 ((Ke hU k lay h2 h3 h1).ct (fun r hr=>?_) fun r hr=>hr.elim))
   obtain⟨n',e',rfl,g1,g2⟩:=hr
   refine⟨_,rfl,?_⟩
   dsimp only
   have l1:=g1.bk.len
   have l2:=g1.xP
   refine kk (V,bB (k+(1:Int)),n',e') ⟨rfl,g1.bk,fun x hx=>g1.bk.w6 x (g1.sub x hx),by dsimp only;omega,fun x hx hno y hy=>?_⟩ ?_
   ·dsimp only at hx hno ⊢
    by_cases hxl:x∈lay
    ·exact g2 x hxl y hy
    ·refine g1.qG _ (h4 x (hx.imp id fun hx=>?_) hxl y hy)
     exact(g1.new x hx).resolve_right hno
   ·show 2*(m -n'.length)+Nat.min e'.length 1<2*(m -n.length)+Nat.min lay.length 1
    have a1:Nat.min lay.length 1=1:=Nat.min_eq_right hl
    rw[a1]
    by_cases he:e'.length=0
    ·rw[he]
     have:Nat.min 0 1=0:=rfl
     omega
    ·have:Nat.min e'.length 1=1:=Nat.min_eq_right (by omega)
     omega
  ·rw[gY (by omega)]
   have hnil:lay= []:=List.length_eq_zero_iff.1 (by omega)
   subst hnil
   exact⟨_,rfl,h1,fun x hx=>h4 x hx List.not_mem_nil⟩
 case mu=>
  show 2*(m -0)+Nat.min 1 1<18446744073709551616
  have:Nat.min 1 1=1:=rfl
  omega
 ·rw[List.mem_singleton.1 hx]
  exact⟨t0,t1⟩
 ·rcases hx with rfl|hx
  ·exact absurd (List.mem_singleton.2 rfl) hno
  ·cases hx
inductive KU(R:Zi):Int→Int→Prop where
 |one {u:iA} {v:sP}:u∈R→v∈u.2.2.1→KU R u.2.1 v.2.2.1
 |more {u:iA} {v:sP} {b:Int}:u∈R→v∈u.2.2.1→KU R v.2.2.1 b→KU R u.2.1 b
theorem BD{s:cH}{lo:Zf}(hc:CG s lo)(b:Int):∃l e,f7 s b=some (l,e)∧l.length≤16∧(0≤b→b<(s.2.2.1.length:Int)→e=0∧∀a,KU s.2.2.2.1 a b→a∈l):=by
 have hB:=hB
 have hm:=hc.tg.many
 rcases Gu (hc.tg.sb hc.sw) with⟨g,er,hg,hn⟩|er
 ·unfold f7
  rw[er,aK]
  dsimp only
  rw[aD (by decide)]
  have en:f18 g b=some (decide (0≤b∧b<(s.2.2.1.length:Int))):=by
   unfold f18
   rw[hg.many]
   by_cases h:0≤b
   ·rw[db h]
    simp[h]
   ·rw[aD (fun h'=>h (ki h'))]
    simp[h]
  rw[en,aK]
  by_cases h:0≤b∧b<(s.2.2.1.length:Int)
  ·obtain⟨n,e1,hk,hcl⟩:=Kf (UH hg) g b h.1 h.2
   have hl:=hk.len
   have e2:CB n=some n:=rfl
   have e3:nv n=some (n,wU (n.map (·.1))):=by
    unfold nv
    exact aA (by omega)
   rw[cU h,aD (by decide),BR hg,aK,e1,aK,e2,aK,e3,aK]
   refine⟨_,_,rfl,by rw[(ll _).length_eq,iD];omega,fun _ _=>⟨rfl,fun a ha=>(ll _).mem_iff.2 ?_⟩⟩
   have put:∀u∈s.2.2.2.1,∀v∈u.2.2.1,u.2.1∈Hq (us g s.2.2.1.length s.2.2.1.length) v.2.2.1:=fun u hu v hv=>by
    obtain⟨v0,v1⟩:=hg.range _ _ (hn u hu v hv)
    have hR:=hc.tg.rules u hu
    exact R4 v0 v1 hR.h0 hR.h1 (hn u hu v hv)
   have key:∀a c,KU s.2.2.2.1 a c→c=b→a∈n.map (·.1):=fun a c h=>by
    induction h with
    |one hu hv=>exact fun e=>hcl _ (Or.inl e) _ (put _ hu _ hv)
    |more hu hv _ ih=>exact fun e=>hcl _ (Or.inr (ih e)) _ (put _ hu _ hv)
   exact key a b ha rfl
  ·rw[dZ h,aA (by decide)]
   exact⟨_,_,rfl,fR _,fun h0 h1=>absurd ⟨h0,h1⟩ h⟩
 ·have ho:=hc.od
  unfold f35 at ho
  rw[er,aK] at ho
  cases ho
def Qy.DZ{α:Type}(P:Pl→Prop):Qy α→Prop
 | .ret _=>True
 | .ask p k=>P p∧∀b x,(k b x).DZ P
theorem qC{α β:Type}{P:Pl→Prop}{f:α→Qy β}(hf:∀a,(f a).DZ P):∀{x:Qy α},x.DZ P→(x.bind f).DZ P
 | .ret a,_=>hf a
 | .ask _ _,h=>⟨h.1,fun b y=>qC hf (h.2 b y)⟩
theorem BE{α:Type}{P P':Pl→Prop}(hp:∀p,P p→P' p):∀{x:Qy α},x.DZ P→x.DZ P'
 | .ret _,_=>trivial
 | .ask _ _,h=>⟨hp _ h.1,fun b y=>BE hp (h.2 b y)⟩
theorem F9{α:Type}{P:Pl→Prop}{O O':Pl→An}(hO:∀p,P p→O' p=O p):∀{x:Qy α},x.DZ P→x.run O'=x.run O
 | .ret _,_=>rfl
 |
  .ask p k,h=>by
  unfold Qy.run
  rw[hO p h.1,F9 hO (h.2 _ _)]
theorem pd{P:Pl→Prop}{look:Pl→Qy Rs}{ch:List In→Qy (Bool×List In)}{a o:Int}{l:List In}(h1:∀y,(look (a,y)).DZ P)(h2:∀x,(ch (l++[x])).DZ P):∀n c,(iT look ch a o l n c).DZ P
 |0,_=>trivial
 |
  n+1,c=>by
  unfold iT
  refine qC (fun x=>?_) (h1 _)
  split
  ·refine qC (fun y=>?_) (h2 _)
   split
   ·trivial
   ·exact pd h1 h2 n (c+1)
  ·exact pd h1 h2 n (c+1)
theorem sC{P:Pl→Prop}{look:Pl→Qy Rs}{s:cH}{m:DM}{u:Ru}(h:∀v∈u.2.2.1,∀y,(look (v.2.2.1,y)).DZ P)(p:Int):∀n l,l.length+n=u.2.2.1.length→(dy look s m u p n l).DZ P
 |0,_,_=>trivial
 |n+1,l,hl=>pd (h _ (dw (t:=aL) (l:=u.2.2.1) (eB l.length) (by omega))) (fun x=>sC h p n (l++[x]) (by rw[eI,cY];omega)) _ _
theorem pg{P:Pl→Prop}{ch:Ru→Qy (Bool×List In)}{bd:Ru→List In→In}{R:List Ru}{a:Int}(h:∀u∈R,u.2.1=a→(ch u).DZ P):∀n c,c+n≤R.length→(gk ch bd R a n c).DZ P
 |0,_,_=>trivial
 |
  n+1,c,hc=>by
  unfold gk
  split
  ·rename_i hu
   refine qC (fun y=>?_) (h _ (dw (t:=bQ) (l:=R) (eB c) (by omega)) hu)
   split
   ·trivial
   ·exact pg h n (c+1) (by omega)
  ·exact pg h n (c+1) (by omega)
theorem xQ{s:cH}{m:DM}:∀n p,(vU s m n p).DZ fun q=>¬bE (.int .i64) .bool q.1 (bK m)=true∧(q.1=p.1∨KU s.2.2.2.1 p.1 q.1)
 |0,_=>trivial
 |
  n+1,p=>by
  unfold vU jT
  split
  ·refine pg (fun u hu e=>sC (fun v hv y=>BE (fun q hq=>⟨hq.1,Or.inr ?_⟩) (xQ n (v.2.2.1,y))) _ _ _ (dY _)) _ _ (by omega)
   rw[←e]
   rcases hq.2 with h|h
   ·rw[h];exact KU.one hu hv
   ·exact KU.more hu hv h
  ·rename_i h
   exact⟨⟨h,Or.inl rfl⟩,fun _ _=>trivial⟩
theorem Kg{l:List Fa}{K:Fa→Bool}{q:Ky}(h:∀x∈l,x.1=q→K x=true)(d k:Int):pn (l.filter K) q d k=pn l q d k:=by
 have e:(l.filter K).filter (jq q k)=l.filter (jq q k):=by
  rw[List.filter_filter]
  refine List.filter_congr fun x hx=>?_
  unfold jq
  cases he:aY bS x.1 q with
  |false=>simp
  |true=>rw[h x hx ((iG bS x.1 q).1 he)];simp
 unfold pn jK
 rw[e]
def Hr(s:cH)(a:Int)(f:Fa):Bool:=match f7 s f.1.1 with
 |some x=>decide (x.2=0)&&x.1.any fun y=>decide (y=a)
 |none=>false
theorem R6{s:cH}{lo:Zf}(hc:CG s lo){a:Int}{f:Fa}(h0:0≤f.1.1)(h1:f.1.1<(s.2.2.1.length:Int))(h:KU s.2.2.2.1 a f.1.1):Hr s a f=true:=by
 obtain⟨l,e,ea,_,hl⟩:=BD hc f.1.1
 obtain⟨e0,hl⟩:=hl h0 h1
 unfold Hr
 rw[ea,e0]
 simp only[decide_true,Bool.true_and]
 exact List.any_eq_true.2 ⟨a,hl a h,cU rfl⟩
theorem Kh{w:cD}{lo:Zf}(hs:SA w.1.1)(hc:CG w.1.1 lo){a:Int}(ha:bE (.int .i64) .bool a (bK (dM w))=true)(y:Int×Int×Unit)(d k:Int)(u:Unit):
 (LQ w.1.1 (dM w) lo (a,y)).run (Oa (w.1,(w.2.1.filter (Hr w.1.1 a),u)) d k)=(LQ w.1.1 (dM w) lo (a,y)).run (Oa w d k):=by
 refine F9 (fun p hp=>?_) (xQ _ _)
 obtain⟨hn,hr⟩:=hp
 have hr:KU w.1.1.2.2.2.1 a p.1:=hr.resolve_left fun e=>hn (by rw[e];exact ha)
 unfold Oa
 dsimp only
 rw[vW (d':=d) Iff.rfl (V:=fun q=>pn w.2.1 q d k) (V':=fun q=>pn (w.2.1.filter (Hr w.1.1 a)) q d k) fun r hr'=>?_,BA]
 obtain⟨⟨c,_,rfl⟩,hb,_⟩:=Bz hr'
 obtain⟨b,eb,hb2⟩:=kv w.1.1 hs.sw.rules p.1
 unfold DX at hb
 rw[eb] at hb
 obtain⟨a0,a1,_⟩:=hb2 hb
 refine Kg (fun x _ e=>?_) d k
 have e1:x.1.1=p.1:=by rw[e]
 exact R6 hc (by rw[e1];exact a0) (by rw[e1];exact a1) (by rw[e1];exact hr)
theorem UI{s:cH}(h:wf fW s):SA s where
 ss:=
  {nR:=h.1.2.1
   nn:=h.2.1.2.1
   dT:=h.2.2.1.2.1
   rules:=h.2.2.2.1.2.1
   je:=h.2.2.2.2.1.2.1
   fu:=h.2.2.2.2.2.1.2.1
   fields:=fun x hx=>⟨(h.2.2.1.2.2 x hx).2.2.2.2.1.2.1,fun f hf=>((h.2.2.1.2.2 x hx).2.2.2.2.1.2.2 f hf).2.1.2.2.2.2.2.1.2.1⟩
   zT:=fun x hx=>⟨(h.2.2.1.2.2 x hx).2.2.2.2.2.1.2.1,fun d hd=>⟨((h.2.2.1.2.2 x hx).2.2.2.2.2.1.2.2 d hd).1.2.1,((h.2.2.1.2.2 x hx).2.2.2.2.2.1.2.2 d hd).2.2.1.2.1⟩⟩
   rl:=fun r hr=>⟨(h.2.2.2.1.2.2 r hr).2.2.1.2.1,(h.2.2.2.1.2.2 r hr).2.2.2.1.2.1,(h.2.2.2.1.2.2 r hr).2.2.2.2.1.2.1⟩
   mv:=fun c hc=>(h.2.2.2.2.1.2.2 c hc).2.2.2.2.1.2.1
   may:=fun p hp=>(h.2.2.2.2.2.1.2.2 p hp).2.1.2.1}
 bs:=
  {nR:=h.1.1
   nn:=h.2.1.1
   dT:=h.2.2.1.1
   rules:=h.2.2.2.1.1
   je:=h.2.2.2.2.1.1
   fu:=h.2.2.2.2.2.1.1
   sch:=fun x hx=>⟨(h.2.2.1.2.2 x hx).2.2.2.2.1.1,(h.2.2.1.2.2 x hx).2.2.2.2.2.1.1,fun d hd=>((h.2.2.1.2.2 x hx).2.2.2.2.2.1.2.2 d hd).1.1⟩
   rl:=fun r hr=>⟨(h.2.2.2.1.2.2 r hr).2.2.1.1,(h.2.2.2.1.2.2 r hr).2.2.2.1.1,(h.2.2.2.1.2.2 r hr).2.2.2.2.1.1⟩
   cv:=fun c hc=>(h.2.2.2.2.1.2.2 c hc).2.2.2.2.1.1
   pu:=fun p hp=>(h.2.2.2.2.2.1.2.2 p hp).2.1.1}
 sw:=
  {nn:=h.2.1.2.1
   dT:=h.2.2.1.2.1
   rules:=h.2.2.2.1.2.1
   fu:=h.2.2.2.2.2.1.2.1
   nb:=fun x hx=>⟨(h.2.2.1.2.2 x hx).2.2.2.2.1.2.1,fun f hf=>((h.2.2.1.2.2 x hx).2.2.2.2.1.2.2 f hf).2.1.2.2.2.2.2.1.2.1⟩
   rl:=fun r hr=>⟨(h.2.2.2.1.2.2 r hr).2.2.1.2.1,(h.2.2.2.1.2.2 r hr).2.2.2.1.2.1,(h.2.2.2.1.2.2 r hr).2.2.2.2.1.1⟩
   may:=fun p hp=>(h.2.2.2.2.2.1.2.2 p hp).2.1.2.1}
theorem Ot(q g h i j2 k:Int)(F:List Fa)(l:Zf)(hl:l.length≤16)(w:cD)(t:B3)(z:Unit)(f:Fa)(e:List Fa)(he:e.length≤100):
 W (DP (Int.toNat (l.length:Int)+1) (q,g,h,i,F,j2,k,l,(l.length:Int),(0:Int),w,t,z,f,e)) (CT (fun r=>r=(q,g,h,i,F,j2,k,w,t,z,if(l.any fun y=>decide (y=q))=true then e++[f] else e)) fun _=>False):=by
 have hB:=hB
 refine W.mono (uK (L:=DP) rfl (fun c(_:Unit)(r:cV _ _)=>CT (fun r=>r=(q,g,h,i,F,j2,k,w,t,z,if((l.drop c).any fun y=>decide (y=q))=true then e++[f] else e)) (fun _=>False) r) l.length (fun c(_:Unit)=>(q,g,h,i,F,j2,k,l,(l.length:Int),(c:Int),w,t,z,f,e)) (fun _ _=>True) ?step ?stop _ 0 () (by omega) (by omega) trivial) fun r hr=>hr
 case step=>
  intro rec c _ hc _ kk
  dsimp only
  have kk:=kk () trivial
  have hw2:=nE c (by omega)
  rw[db (by omega),fP c,aA (show(c:Int)<(l.length:Int) by omega),kU hc,List.any_cons,ew (t:=.int .i64) hc]
  by_cases h:l[c]=q
  ·rw[db h,aA (show(e.length+List.length [f])*64≤aG by rw[cY];omega),cU h,Bool.true_or,aA rfl]
   exact⟨_,rfl,rfl⟩
  ·rw[aD (fun h'=>h (ki h')),dZ h,Bool.false_or,hw2]
   exact kk
 case stop=>
  intro rec _ _
  dsimp only
  rw[gY (by omega),List.drop_length,List.any_nil,aD (by decide)]
  exact⟨_,rfl,rfl⟩
theorem Ou(w:cD){lo:Zf}(hc:CG w.1.1 lo)(hf:w.2.1.length≤60)(q g h i:Int):
 W (JY (Int.toNat (w.2.1.length:Int)+1) (q,g,h,i,w.2.1,(w.2.1.length:Int),(0:Int),w,w.1,w.2.2,[])) (CT (fun r=>r=(q,g,h,i,w,w.1,w.2.2,w.2.1.filter (Hr w.1.1 q))) fun _=>False):=by
 have hB:=hB
 refine W.mono (uK (L:=JY) rfl (fun c(e:List Fa)(r:cV _ _)=>CT (fun r=>r=(q,g,h,i,w,w.1,w.2.2,e++(w.2.1.drop c).filter (Hr w.1.1 q))) (fun _=>False) r) w.2.1.length (fun c(e:List Fa)=>(q,g,h,i,w.2.1,(w.2.1.length:Int),(c:Int),w,w.1,w.2.2,e)) (fun c e=>e.length≤c) ?step ?stop _ 0 [] (by omega) (by omega) (dD _)) fun r hr=> ?fin
 case fin=>exact hr
 case step=>
  intro rec c e hc' he kk
  dsimp only
  have hw2:=nE c (by omega)
  obtain⟨l,x,ea,hl,_⟩:=BD hc w.2.1[c].1.1
  have ek:Hr w.1.1 q w.2.1[c]=(decide (x=0)&&l.any fun y=>decide (y=q)):=by
   unfold Hr
   rw[ea]
  rw[db (by omega),fP c,aA (show(c:Int)<(w.2.1.length:Int) by omega),ew (t:=dq) hc',ea,aK,kU hc',vq,ek]
  dsimp only
  by_cases hx:x=0
  ·rw[aD (by simp[hx]),cU hx,Bool.true_and]
   refine bY.2 ((Ot q g h i (w.2.1.length:Int) (c:Int) w.2.1 l hl w w.1 w.2.2 w.2.1[c] e (by omega)).ct (fun r hr=>?_) fun r hr=>hr.elim)
   subst hr
   dsimp only
   rw[hw2]
   by_cases h2:(l.any fun y=>decide (y=q))=true
   ·rw[aA h2,aA h2]
    refine(kk (e++[w.2.1[c]]) (by rw[eI,cY];omega)).mono fun r hr=>?_
    rw[List.append_assoc] at hr
    exact hr
   ·rw[aD h2,aD h2]
    exact kk e (by omega)
  ·rw[aA (by simp[hx]),aJ]
   dsimp only
   rw[dZ hx,Bool.false_and,aD (by decide),hw2]
   exact kk e (by omega)
 case stop=>
  intro rec e _
  dsimp only
  rw[gY (by omega),List.drop_length]
  exact⟨_,rfl,by rw[List.filter_nil,ik];rfl⟩
theorem BF(w:cD)(hs:SA w.1.1)(a p d k:Int):f3 w a p d k=some true:=by
 unfold f3
 rw[NF,aK,aD (by decide)]
 obtain⟨r,e,hr⟩:=Oj w hs.ss
 rw[e,aK]
 cases r with
 |false=>rw[aA (by decide),aK,aA rfl];rfl
 |
  true=>
  obtain⟨hT,hf⟩:=hr rfl
  obtain⟨r0,er,hcg⟩:=KA w.1 hs
  rw[aD (by decide),er,aK]
  by_cases h0:r0=0
  ·subst h0
   obtain⟨lo,hc⟩:=hcg rfl
   rw[aK,aD (by decide),aJ]
   dsimp only
   obtain⟨r8,e8,h8⟩:=Ou w hc hf a p d k
   rw[e8]
   cases r8 with
   |ret r=>exact h8.elim
   |
    brk y=>
    have h8:y=(a,p,d,k,w,w.1,w.2.2,w.2.1.filter (Hr w.1.1 a)):=h8
    subst h8
    rw[aJ]
    dsimp only
    have hlf:(w.2.1.filter (Hr w.1.1 a)).length≤w.2.1.length:=xA ..
    obtain⟨o1,o2,o3⟩:=UG hs hT hf er (fun _=>hc) a p d k
    obtain⟨p1,_,_⟩:=UG (w:=(w.1,(w.2.1.filter (Hr w.1.1 a),w.2.2))) hs hT (by show(w.2.1.filter _).length≤60;omega) er (fun _=>hc) a p d k
    have eD:dM (w.1,(w.2.1.filter (Hr w.1.1 a),w.2.2))=dM w:=rfl
    have eLL:LL (w.1,(w.2.1.filter (Hr w.1.1 a),w.2.2)) lo 0=LQ w.1.1 (dM w) lo:=aA rfl
    have eLL':LL w lo 0=LQ w.1.1 (dM w) lo:=aA rfl
    rw[eD,eLL] at p1
    rw[eLL'] at o1 o2 o3
    rw[o1,aK]
    by_cases hi:vX (decide ((0:Int)=0)) (dM w) a p d=true
    ·rw[aA hi] at p1 ⊢
     have hm:bE (.int .i64) .bool a (bK (dM w))=true:=by
      unfold vX at hi
      exact(Bool.and_eq_true_iff.1 (Bool.and_eq_true_iff.1 hi).2).1
     rw[Kh hs hc hm] at p1
     have o2:=o2 hi
     obtain⟨o3,_⟩:=o3 hi
     dsimp only
     rw[p1,aK]
     dsimp only
     rw[ky _ (by omega),aK,aA rfl,mb _ (by omega),aK,aA rfl,beq_self_eq_true]
     rfl
    ·rw[aD hi] at p1 ⊢
     dsimp only
     rw[p1,aK]
     dsimp only
     rw[ky zI (fR _),aK,aA rfl,mb [] (fR _)]
     rfl
  ·rw[aK,aA (by simp[h0])]
   rfl
theorem pl3(a0:cD)(a1 a2 a3 a4:Int)(af0:wf iY a0)(_af1:wf (.int .i64) a1)(_af2:wf (.int .i64) a2)(_af3:wf (.int .i64) a3)(_af4:wf (.int .i64) a4):f3 a0 a1 a2 a3 a4=some true:=
 BF a0 (UI af0.1.1) a1 a2 a3 a4
end Go.Proofs.YtaghhonjcdokjaaGreatDoor
